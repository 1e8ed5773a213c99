import PyProof.Rows.All
import Wide.All
import OpenK.AllK
import Wide.FinOn
import PySem.Challenge.RW_everyname_k73_worlds_begin_empty
import KE.KStateDown
import HandS.Head0
import HandS.Head1
import HandS.Head2
import Open.Line
import PyProof.TableCode
import HandS.ForMost
import HandS.ForExc
import HandS.Star
import HandS.Property
import HandS.TryMany
import HandS.TryOnly
import HandS.ExcInit
import HandS.Defaults
import HandS.Wide
import HandS.WideBits
import HandS.IsInst
import HandS.SetKeys
import HandS.Strs
import HandS.DictComp
import HandS.TupMul
import HandS.SortKw
import HandS.OwnEq
import HandS.Flow
import HandS.Style
import HandS.Conv
import HandS.HeadEnd
import KE.KExcSuper
import OpenK.KMeth
import HandS.Walk
import HandS.More
import KE.GoesMore
import HandS.TupAny
import HandS.RaiseMore
section
set_option Elab.async false
set_option linter.all false
set_option maxRecDepth 100000
set_option maxHeartbeats 0
open PySem PySem.W PyProof.Rows
lay_quick PySem.Challenge.pw_everyname_k73_worlds_begin_empty
end
section
set_option Elab.async false
set_option linter.all false
set_option maxRecDepth 100000
noncomputable section
namespace HK
open PySem PySem.W PySem.Calls PyProof.Rows
section
variable (st : SharedT → Thread → Option (SharedT × Thread)) (n0 : Nat) (ann : Option Value)
def segF (b : Nat) : Nat → SharedT → Thread → Option (Flow × SharedT × Code × Pos)
  | 0, _, _ => none
  | m + 1, s, t => match endAt b t with
    | some f => some (f, s, t.code, t.pos)
    | none => match stepOk n0 ann t with
      | false => none
      | true => match st s t with
        | some (s', t') => HandSHeadRun.frS s' fun s' => segF b m s' t'
        | none => none
def goGF : Nat → SharedT → Thread → Option (SharedT × Thread)
  | 0, s, t => some (s, t)
  | m + 1, s, t => match through t with
    | true => none
    | false => match stepOk n0 ann t with
      | false => none
      | true => match st s t with
        | some (s', t') => HandSHeadRun.frS s' fun s' => goGF m s' t'
        | none => none
end
section
variable {tb : String → Option Builtin} {p : Program} {w : World} {n0 : Nat} {ann : Option Value} {b : Nat}
theorem segF_ok : ∀ {m : Nat} {s s' : SharedT} {t : Thread} {f : Flow} {c : Code} {q : Pos}, segF (stepT (denote tb) p w) n0 ann b m s t = some (f, s', c, q) → segRun tb p w n0 ann b m s.abs t = some (f, s'.abs, c, q)
  | 0, _, _, _, _, _, _, h => by cases h
  | m + 1, s, s', t, f, c, q, h => by
    unfold segF at h
    unfold segRun
    cases he : endAt b t with
    | some g =>
      rw [he] at h
      have h1 : some (g, s, t.code, t.pos) = some (f, s', c, q) := h
      obtain ⟨rfl, h2⟩ := Prod.mk.inj (Option.some.inj h1)
      obtain ⟨rfl, h3⟩ := Prod.mk.inj h2
      obtain ⟨rfl, rfl⟩ := Prod.mk.inj h3
      rfl
    | none =>
      rw [he] at h
      cases hk : stepOk n0 ann t with
      | false =>
        rw [hk] at h
        cases h
      | true =>
        rw [hk] at h
        cases hs : stepT (denote tb) p w s t with
        | none =>
          have h2 : (match stepT (denote tb) p w s t with
            | some (s', t') => HandSHeadRun.frS s' fun s' => segF (stepT (denote tb) p w) n0 ann b m s' t'
            | none => none) = some (f, s', c, q) := h
          rw [hs] at h2
          cases h2
        | some r =>
          obtain ⟨s2, t2⟩ := r
          have h2 : (match stepT (denote tb) p w s t with
            | some (s', t') => HandSHeadRun.frS s' fun s' => segF (stepT (denote tb) p w) n0 ann b m s' t'
            | none => none) = some (f, s', c, q) := h
          rw [hs] at h2
          have h3 : (HandSHeadRun.frS s2 fun s' => segF (stepT (denote tb) p w) n0 ann b m s' t2) = some (f, s', c, q) := h2
          rw [HandSHeadRun.frS_eq] at h3
          have q2 := segF_ok h3
          show (match step (denote tb) p w s.abs t with
            | .go s' t' => segRun tb p w n0 ann b m s' t'
            | .halt _ _ => none) = some (f, s'.abs, c, q)
          rw [stepT_spec hs]
          exact q2
theorem goGF_ok : ∀ {m : Nat} {s s' : SharedT} {t t' : Thread}, goGF (stepT (denote tb) p w) n0 ann m s t = some (s', t') → topGo tb p w n0 ann m s.abs t = some (s'.abs, t')
  | 0, s, s', t, t', h => by
    have h1 : some (s, t) = some (s', t') := h
    obtain ⟨rfl, rfl⟩ := Prod.mk.inj (Option.some.inj h1)
    rfl
  | m + 1, s, s', t, t', h => by
    unfold goGF at h
    unfold topGo
    cases he : through t with
    | true =>
      rw [he] at h
      cases h
    | false =>
      rw [he] at h
      cases hk : stepOk n0 ann t with
      | false =>
        rw [hk] at h
        cases h
      | true =>
        rw [hk] at h
        have h2 : (match stepT (denote tb) p w s t with
          | some (s', t') => HandSHeadRun.frS s' fun s' => goGF (stepT (denote tb) p w) n0 ann m s' t'
          | none => none) = some (s', t') := h
        cases hs : stepT (denote tb) p w s t with
        | none =>
          rw [hs] at h2
          cases h2
        | some r =>
          obtain ⟨s2, t2⟩ := r
          rw [hs] at h2
          have h3 : (HandSHeadRun.frS s2 fun s' => goGF (stepT (denote tb) p w) n0 ann m s' t2) = some (s', t') := h2
          rw [HandSHeadRun.frS_eq] at h3
          have q2 := goGF_ok h3
          show (match step (denote tb) p w s.abs t with
            | .go s' t' => topGo tb p w n0 ann m s' t'
            | .halt _ _ => none) = some (s'.abs, t')
          rw [stepT_spec hs]
          exact q2
end
def stL (life : Life) (drawn : Drawn) (toks : Nat) (os : OsState) (l : List Obj) : Shared := ⟨⟨l.toArray, life⟩, #[], drawn, toks, os⟩
def onTree {α : Type} (l : List Obj) (k : BT → Nat → Option α) : Option α := match HandSHeadRun.putAll l .nil 0 with
  | some (t, n) => HandSHeadRun.frNat n fun n => k t n
  | none => none
theorem onTree_some {α : Type} {l : List Obj} {k : BT → Nat → Option α} {r : α} (h : onTree l k = some r) : ∃ t n, (∀ life, absHeap t n life = ⟨l.toArray, life⟩) ∧ k t n = some r := by
  unfold onTree at h
  cases e : HandSHeadRun.putAll l .nil 0 with
  | none =>
    rw [e] at h
    cases h
  | some x =>
    obtain ⟨t, n⟩ := x
    rw [e] at h
    have h2 : (HandSHeadRun.frNat n fun n => k t n) = some r := h
    rw [HandSHeadRun.frNat_eq] at h2
    refine ⟨t, n, fun life => ?_, h2⟩
    have z := HandSHeadRun.putAll_heap (h := ⟨l.toArray, life⟩) (t := t) (n := n) (by simpa using e)
    exact z
def grp (st : SharedT → Thread → Option (SharedT × Thread)) (M : Nat) (life : Life) (drawn : Drawn) (toks : Nat) (os : OsState) (l : List Obj) (th : Thread) : Option (Flow × SharedT × Code × Pos) :=
  onTree l fun t n => segF st 11 (some (.ref 6)) 1 M ⟨t, n, life, #[], drawn, toks, os⟩ th
theorem grp_ok {p : Program} {w : World} {M : Nat} {life : Life} {drawn : Drawn} {toks : Nat} {os : OsState} {l : List Obj} {th : Thread} {f : Flow} {s : SharedT} {c : Code} {q : Pos}
    (h : grp (stepT (denote treeTable) p w) M life drawn toks os l th = some (f, s, c, q)) : segRun treeTable p w 11 (some (.ref 6)) 1 M (stL life drawn toks os l) th = some (f, s.abs, c, q) := by
  obtain ⟨t, n, ht, hk⟩ := onTree_some h
  have z := segF_ok hk
  have e : (⟨t, n, life, #[], drawn, toks, os⟩ : SharedT).abs = stL life drawn toks os l := by
    show (⟨absHeap t n life, #[], drawn, toks, os⟩ : Shared) = _
    rw [ht life]
    rfl
  rw [e] at z
  exact z
def obsA (k : Nat) (s : SharedT) : Nat × Life × Nat × Drawn × Nat × OsState × List (Option Obj) := (s.n, s.life, s.gens.size, s.drawn, s.toks, s.os, (List.range k).map s.tree.get)
theorem list_of_gets {T : BT} {n k : Nat} {F : List Obj} (hk : k + F.length = k + k) (hn : k ≤ n) (h : (List.range k).map T.get = F.map some) :
    T.list n = F ++ (List.range (n - k)).map fun i => (T.get (k + i)).getD default := by
  have hF : F.length = k := by omega
  unfold BT.list
  have e1 : List.range n = List.range k ++ (List.range (n - k)).map (k + ·) := by
    rw [← List.range_add]
    congr 1
    omega
  rw [e1, List.map_append, List.map_map]
  congr 1
  have e2 : (List.range k).map (fun i => (T.get i).getD default) = ((List.range k).map T.get).map fun o => o.getD default := by rw [List.map_map]; rfl
  rw [e2, h, List.map_map]
  exact (List.map_congr_left fun _ _ => rfl).trans (List.map_id' _)
theorem abs_told {s : SharedT} {k n : Nat} {F : List Obj} {life : Life} {drawn : Drawn} {toks : Nat} {os : OsState} (hF : F.length = k) (hn : k ≤ n) (h : obsA k s = (n, life, 0, drawn, toks, os, F.map some)) :
    s.abs = stL life drawn toks os (F ++ (List.range (n - k)).map fun i => (s.tree.get (k + i)).getD default) := by
  obtain ⟨T, sn, sl, sg, sd, stk, so⟩ := s
  unfold obsA at h
  simp only [Prod.mk.injEq] at h
  obtain ⟨h1, h2, h3, h4, h5, h6, h7⟩ := h
  subst h1 h2 h4 h5 h6
  have e3 : sg = #[] := Array.eq_empty_of_size_eq_zero h3
  subst e3
  show (⟨absHeap T sn sl, #[], sd, stk, so⟩ : Shared) = _
  unfold absHeap stL
  rw [list_of_gets (F := F) (by omega) hn h7]
theorem left_top {p q : Program} {loose : List Str} {Xt : Shared → Bool} {α : Type} {Yf : Shared → α} {Ya : World → α} {N M : Nat}
    (e : opening p = plainProg p.main.scope.names) (hN : Nat.ble 600 N = true) (f : ∀ s, fenceModules? p s = some s) (le : Nat.ble M N = true)
    (run : ∀ (w : World) (os : OsState), ∃ s, topRun treeTable p w 11 (some (.ref 6)) M ⟨boot_heap w.params, #[], boot_drawn, boot_toks, os⟩ (topStub p) = some s ∧
      HandSHeadRun.looksF p (boot_heap w.params) s = true ∧ openSeen q loose (importedModules p.main.body) Xt true s = openGood q loose ∧ Yf s = Ya w)
    (h11 : ∀ w : World, (boot_heap w.params).objs.size = 11) (h6 : ∀ w : World, (boot_heap w.params).nsMap mainGlobals "__annotations__" = some (.ref 6)) :
    LeftO p q loose Xt Yf Ya N true := fun w => by
  obtain ⟨⟨h, gs, d, k, os⟩, a, a'⟩ := Option.map_eq_some_iff.mp (boot_open e hN f w)
  obtain ⟨rfl, rfl, rfl, rfl⟩ : h = boot_heap w.params ∧ gs = Array.mk [] ∧ d = boot_drawn ∧ k = boot_toks := by simpa using a'
  obtain ⟨s, r0, l1, l2, l3⟩ := run w os
  have r := topRun_mono (N - M) _ _ _ _ r0
  rw [show M + (N - M) = N by have := Nat.le_of_ble_eq_true le; omega] at r
  have l1' : (staticsOk (importedModules p.main.body) (boot_heap w.params) s.heap && namesBound p s.heap && gensDone s && laidKept (boot_heap w.params) s.heap) = true := l1
  have t : topFrom treeTable p w N ⟨boot_heap w.params, Array.mk [], boot_drawn, boot_toks, os⟩ = some s := by
    unfold topFrom
    dsimp only
    rw [HandSHeadRun.boot_ns, h11 w, h6 w]
    show (topRun treeTable p w 11 (some (.ref 6)) N ⟨boot_heap w.params, #[], boot_drawn, boot_toks, os⟩ (topStub p)).bind _ = _
    rw [r]
    show (match staticsOk (importedModules p.main.body) (boot_heap w.params) s.heap && namesBound p s.heap && gensDone s && laidKept (boot_heap w.params) s.heap with | true => some s | false => none) = _
    rw [l1']
  unfold openEnds
  rw [a]
  show (topFrom treeTable p w N _).map _ = _
  rw [t]
  exact congrArg some (Prod.ext l2 l3)
theorem h11 (w : World) : (boot_heap w.params).objs.size = 11 := by kernel_rfl
theorem h6 (w : World) : (boot_heap w.params).nsMap mainGlobals "__annotations__" = some (.ref 6) := by kernel_rfl
end HK
noncomputable section
namespace HK
open PySem PySem.W PySem.Calls PyProof.Rows
def stA (p : Program) (i : Nat) : Stmt := p.main.body.getD i default
def kidA (s : Stmt) (j : Nat) : Stmt := match s with
  | .ClassDef _ _ _ b _ _ _ _ _ _ _ => b.getD j default
  | _ => default
def dPar (s : Stmt) : Arguments := match s with
  | .FunctionDef _ a _ _ _ _ _ _ _ _ => a
  | _ => default
def dBody (s : Stmt) : List Stmt := match s with
  | .FunctionDef _ _ b _ _ _ _ _ _ _ => b
  | _ => []
def dScope (s : Stmt) : Scope := match s with
  | .FunctionDef _ _ _ _ _ _ sc _ _ _ => sc
  | _ => default
def envA (p : Program) (code frame : Addr) : Env := { scope := p.main.scope, locals := mainNs, globals := mainNs, cells := [], code := .ref code, frame := some frame }
def codeA (p : Program) (code frame : Addr) : Code := .body p.main.body (envA p code frame)
def fnX (name qual : Str) (s : Stmt) (closure : List (Str × Addr)) (dV kV doc pm : Value) (an : Option Addr) (cdv ct : Value) : FuncData :=
  { name, qualname := qual, params := dPar s, body := .stmts (dBody s), scope := dScope s, globals := mainGlobals, closure, defaults := dV, kwdefaults := kV, doc, pyModule := pm, annotations := an, code := cdv, closureTuple := ct, builtins := builtinsNs }
def viewA (p : Program) (i : Nat) : Program := { p with main := { p.main with body := [stA p i] } }
abbrev Obs := Nat × Life × Nat × Drawn × Nat × OsState × List (Option Obj) × List (Option Obj)
def obsB (A : List Nat) (s : SharedT) : Obs := (s.n, s.life, s.gens.size, s.drawn, s.toks, s.os, (List.range 15).map s.tree.get, A.map s.tree.get)
def grpO (st : SharedT → Thread → Option (SharedT × Thread)) (M : Nat) (A : List Nat) (life : Life) (drawn : Drawn) (toks : Nat) (os : OsState) (l : List Obj) (th : Thread) : Option (Flow × Code × Pos × Obs) :=
  match grp st M life drawn toks os l th with
  | some (f, s, c, q) => some (f, c, q, obsB A s)
  | none => none
theorem grpO_ok {p : Program} {w : World} {M : Nat} {A : List Nat} {life life' : Life} {drawn drawn' : Drawn} {toks toks' n : Nat} {os os' : OsState} {l F G : List Obj} {th : Thread} {c : Code} {q : Pos}
    (hF : F.length = 15) (hn : 15 ≤ n)
    (h : grpO (stepT (denote treeTable) p w) M A life drawn toks os l th = some (.next, c, q, n, life', 0, drawn', toks', os', F.map some, G.map some)) :
    ∃ g : Nat → Obj, segRun treeTable p w 11 (some (.ref 6)) 1 M (stL life drawn toks os l) th = some (.next, stL life' drawn' toks' os' (F ++ (List.range (n - 15)).map fun i => g (15 + i)), c, q) ∧ A.map g = G := by
  unfold grpO at h
  cases e : grp (stepT (denote treeTable) p w) M life drawn toks os l th with
  | none =>
    rw [e] at h
    cases h
  | some r =>
    obtain ⟨f, s, c', q'⟩ := r
    rw [e] at h
    have h1 : some (f, c', q', obsB A s) = some (.next, c, q, n, life', 0, drawn', toks', os', F.map some, G.map some) := h
    obtain ⟨rfl, h2⟩ := Prod.mk.inj (Option.some.inj h1)
    obtain ⟨rfl, h3⟩ := Prod.mk.inj h2
    obtain ⟨rfl, h4⟩ := Prod.mk.inj h3
    have z := grp_ok e
    have h5 : obsA 15 s = (n, life', 0, drawn', toks', os', F.map some) := by
      unfold obsB at h4
      simp only [Prod.mk.injEq] at h4
      obtain ⟨a1, a2, a3, a4, a5, a6, a7, _⟩ := h4
      unfold obsA
      rw [a1, a2, a3, a4, a5, a6, a7]
    have h6 : A.map s.tree.get = G.map some := by
      unfold obsB at h4
      simp only [Prod.mk.injEq] at h4
      exact h4.2.2.2.2.2.2.2
    refine ⟨fun a => (s.tree.get a).getD default, ?_, ?_⟩
    · rw [z, abs_told hF hn h5]
    · have e2 : A.map (fun a => (s.tree.get a).getD default) = (A.map s.tree.get).map fun o => o.getD default := by rw [List.map_map]; rfl
      rw [e2, h6, List.map_map]
      exact (List.map_congr_left fun _ _ => rfl).trans (List.map_id' _)
def preO (st : SharedT → Thread → Option (SharedT × Thread)) (M : Nat) (life : Life) (drawn : Drawn) (toks : Nat) (os : OsState) (l : List Obj) (th : Thread) : Option (Thread × Obs) :=
  match onTree l fun t n => goGF st 11 (some (.ref 6)) M ⟨t, n, life, #[], drawn, toks, os⟩ th with
  | some (s, t) => some (t, obsB [] s)
  | none => none
theorem preO_ok {p : Program} {w : World} {M : Nat} {life life' : Life} {drawn drawn' : Drawn} {toks toks' : Nat} {os os' : OsState} {l F : List Obj} {th th' : Thread}
    (hF : F.length = 15) (h : preO (stepT (denote treeTable) p w) M life drawn toks os l th = some (th', 15, life', 0, drawn', toks', os', F.map some, [])) :
    topGo treeTable p w 11 (some (.ref 6)) M (stL life drawn toks os l) th = some (stL life' drawn' toks' os' F, th') := by
  unfold preO at h
  cases e : onTree l fun t n => goGF (stepT (denote treeTable) p w) 11 (some (.ref 6)) M ⟨t, n, life, #[], drawn, toks, os⟩ th with
  | none =>
    rw [e] at h
    cases h
  | some r =>
    obtain ⟨s, t⟩ := r
    rw [e] at h
    have h1 : some (t, obsB [] s) = some (th', 15, life', 0, drawn', toks', os', F.map some, []) := h
    obtain ⟨rfl, h4⟩ := Prod.mk.inj (Option.some.inj h1)
    obtain ⟨tr, n, ht, hk⟩ := onTree_some e
    have z := goGF_ok hk
    have e1 : (⟨tr, n, life, #[], drawn, toks, os⟩ : SharedT).abs = stL life drawn toks os l := by
      show (⟨absHeap tr n life, #[], drawn, toks, os⟩ : Shared) = _
      rw [ht life]
      rfl
    rw [e1] at z
    have h5 : obsA 15 s = (15, life', 0, drawn', toks', os', F.map some) := by
      unfold obsB at h4
      simp only [Prod.mk.injEq] at h4
      obtain ⟨a1, a2, a3, a4, a5, a6, a7, _⟩ := h4
      unfold obsA
      rw [a1, a2, a3, a4, a5, a6, a7]
    have h7 := abs_told hF (Nat.le_refl 15) h5
    rw [z, h7]
    congr 3
    simp
end HK
end
end
end
section
set_option Elab.async false
set_option linter.all false
set_option maxRecDepth 100000
set_option maxHeartbeats 0
noncomputable section
namespace HD
open PySem PySem.W PySem.Calls PyProof.Rows HK
def F0 (w : World) : List Obj := [boot_o_0 w.params, boot_o_1 w.params, boot_o_2 w.params, ⟨(.type "dict"), none, (.dict #[⟨PySem.PyData.keyHash w.params ⟨#[95, 95, 110, 97, 109, 101, 95, 95]⟩, (.str ⟨#[95, 95, 110, 97, 109, 101, 95, 95]⟩ 165), (.str ⟨#[95, 95, 109, 97, 105, 110, 95, 95]⟩ 164)⟩, ⟨PySem.PyData.keyHash w.params ⟨#[95, 95, 100, 111, 99, 95, 95]⟩, (.str ⟨#[95, 95, 100, 111, 99, 95, 95]⟩ 166), .none⟩, ⟨PySem.PyData.keyHash w.params ⟨#[95, 95, 112, 97, 99, 107, 97, 103, 101, 95, 95]⟩, (.str ⟨#[95, 95, 112, 97, 99, 107, 97, 103, 101, 95, 95]⟩ 167), .none⟩, ⟨PySem.PyData.keyHash w.params ⟨#[95, 95, 108, 111, 97, 100, 101, 114, 95, 95]⟩, (.str ⟨#[95, 95, 108, 111, 97, 100, 101, 114, 95, 95]⟩ 168), (.builtin "__main__.__loader__#opaque")⟩, ⟨PySem.PyData.keyHash w.params ⟨#[95, 95, 115, 112, 101, 99, 95, 95]⟩, (.str ⟨#[95, 95, 115, 112, 101, 99, 95, 95]⟩ 169), .none⟩, ⟨PySem.PyData.keyHash w.params ⟨#[95, 95, 97, 110, 110, 111, 116, 97, 116, 105, 111, 110, 115, 95, 95]⟩, (.str ⟨#[95, 95, 97, 110, 110, 111, 116, 97, 116, 105, 111, 110, 115, 95, 95]⟩ 170), (.ref 6)⟩, ⟨PySem.PyData.keyHash w.params ⟨#[95, 95, 98, 117, 105, 108, 116, 105, 110, 115, 95, 95]⟩, (.str ⟨#[95, 95, 98, 117, 105, 108, 116, 105, 110, 115, 95, 95]⟩ 171), (.ref 4)⟩, ⟨PySem.PyData.keyHash w.params ⟨#[95, 95, 102, 105, 108, 101, 95, 95]⟩, (.str ⟨#[95, 95, 102, 105, 108, 101, 95, 95]⟩ 173), (.str ⟨#[47, 99, 108, 97, 105, 109, 47, 99, 117, 116, 46, 112, 121]⟩ 172)⟩, ⟨PySem.PyData.keyHash w.params ⟨#[95, 95, 99, 97, 99, 104, 101, 100, 95, 95]⟩, (.str ⟨#[95, 95, 99, 97, 99, 104, 101, 100, 95, 95]⟩ 174), .none⟩] 9), #[]⟩, boot_o_4 w.params, boot_o_5 w.params, boot_o_6 w.params, boot_o_7 w.params, boot_o_8 w.params, boot_o_9 w.params, boot_o_10 w.params, ⟨(.type "tuple"), none, (.seq #[] 0), #[]⟩, ⟨.none, none, (.fields #[]), #[]⟩, ⟨(.type "code"), none, (.fields #[(.str ⟨#[60, 109, 111, 100, 117, 108, 101, 62]⟩ 182), (.str ⟨#[60, 109, 111, 100, 117, 108, 101, 62]⟩ 183), (.str ⟨#[47, 99, 108, 97, 105, 109, 47, 99, 117, 116, 46, 112, 121]⟩ 184), (.int 1 0), (.int 0 0), (.int 0 0), (.int 0 0), (.int 0 0), (.ref 11), (.bool false), (.int 181 0), (.ref 12), .none, .none, .none, .none, (.int 185 0), (.int 1 0), (.str ⟨#[47, 99, 108, 97, 105, 109, 47, 99, 117, 116, 46, 112, 121]⟩ 186)]), #[]⟩, ⟨(.type "frame"), none, .plain, #[(some (.ref 13)), (some (.ref 3)), (some (.ref 3)), none, (some (.str ⟨#[95, 95, 109, 97, 105, 110, 95, 95]⟩ 164)), none, (some (.ref 0))]⟩]
theorem pre (w : World) (os : OsState) : preO (HandSHeadRun.stepQ (HandSHeadRun.denQ HandSHeadRun.tabQ) PySem.W.Fast.tw10313853756172224601 w) 12 (boot_heap w.params).life boot_drawn boot_toks os (boot_heap w.params).objs.toList (topStub PySem.W.Fast.tw10313853756172224601) =
  some (⟨HandSHeadRun.denQ HandSHeadRun.tabQ (codeA PySem.W.Fast.tw10313853756172224601 13 14), (codeA PySem.W.Fast.tw10313853756172224601 13 14), ⟨0, 0, 0, 0⟩, [topFrame ⟨0, 0, 0, 0⟩]⟩, 15, (boot_heap w.params).life, 0, boot_drawn, 187, os, (F0 w).map some, []) := by kernel_rfl
theorem blk (w : World) (s : Shared) : segRun treeTable PySem.W.Fast.tw10313853756172224601 w 11 (some (.ref 6)) 1 1 s (blockOf (PySem.W.Fast.tw10313853756172224601).main.body (envA PySem.W.Fast.tw10313853756172224601 13 14) (codeA PySem.W.Fast.tw10313853756172224601 13 14) ⟨0, 0, 0, 0⟩ [topFrame ⟨0, 0, 0, 0⟩]) = some (.next, s, (codeA PySem.W.Fast.tw10313853756172224601 13 14), ⟨0, 0, 0, 0⟩) := by kernel_rfl
def F1 (w : World) : List Obj := [boot_o_0 w.params, boot_o_1 w.params, ⟨.none, none, (.dict #[] 0), #[]⟩, ⟨(.type "dict"), none, (.dict #[⟨PySem.PyData.keyHash w.params ⟨#[95, 95, 110, 97, 109, 101, 95, 95]⟩, (.str ⟨#[95, 95, 110, 97, 109, 101, 95, 95]⟩ 165), (.str ⟨#[101, 118, 101, 114, 121, 110, 97, 109, 101, 46, 101, 114, 114, 111, 114, 115]⟩ 194)⟩, ⟨PySem.PyData.keyHash w.params ⟨#[95, 95, 100, 111, 99, 95, 95]⟩, (.str ⟨#[95, 95, 100, 111, 99, 95, 95]⟩ 166), .none⟩, ⟨PySem.PyData.keyHash w.params ⟨#[95, 95, 112, 97, 99, 107, 97, 103, 101, 95, 95]⟩, (.str ⟨#[95, 95, 112, 97, 99, 107, 97, 103, 101, 95, 95]⟩ 167), .none⟩, ⟨PySem.PyData.keyHash w.params ⟨#[95, 95, 108, 111, 97, 100, 101, 114, 95, 95]⟩, (.str ⟨#[95, 95, 108, 111, 97, 100, 101, 114, 95, 95]⟩ 168), (.builtin "__main__.__loader__#opaque")⟩, ⟨PySem.PyData.keyHash w.params ⟨#[95, 95, 115, 112, 101, 99, 95, 95]⟩, (.str ⟨#[95, 95, 115, 112, 101, 99, 95, 95]⟩ 169), .none⟩, ⟨PySem.PyData.keyHash w.params ⟨#[95, 95, 97, 110, 110, 111, 116, 97, 116, 105, 111, 110, 115, 95, 95]⟩, (.str ⟨#[95, 95, 97, 110, 110, 111, 116, 97, 116, 105, 111, 110, 115, 95, 95]⟩ 170), (.ref 6)⟩, ⟨PySem.PyData.keyHash w.params ⟨#[95, 95, 98, 117, 105, 108, 116, 105, 110, 115, 95, 95]⟩, (.str ⟨#[95, 95, 98, 117, 105, 108, 116, 105, 110, 115, 95, 95]⟩ 171), (.ref 4)⟩, ⟨PySem.PyData.keyHash w.params ⟨#[95, 95, 102, 105, 108, 101, 95, 95]⟩, (.str ⟨#[95, 95, 102, 105, 108, 101, 95, 95]⟩ 173), (.str ⟨#[47, 99, 108, 97, 105, 109, 47, 99, 117, 116, 46, 112, 121]⟩ 172)⟩, ⟨PySem.PyData.keyHash w.params ⟨#[95, 95, 99, 97, 99, 104, 101, 100, 95, 95]⟩, (.str ⟨#[95, 95, 99, 97, 99, 104, 101, 100, 95, 95]⟩ 174), .none⟩, ⟨PySem.PyData.keyHash w.params ⟨#[95, 119, 97, 108, 108]⟩, (.str ⟨#[95, 119, 97, 108, 108]⟩ 193), (.ref 21)⟩, ⟨PySem.PyData.keyHash w.params ⟨#[69, 118, 101, 114, 121, 110, 97, 109, 101, 69, 114, 114, 111, 114]⟩, (.str ⟨#[69, 118, 101, 114, 121, 110, 97, 109, 101, 69, 114, 114, 111, 114]⟩ 213), (.ref 31)⟩, ⟨PySem.PyData.keyHash w.params ⟨#[66, 97, 100, 80, 114, 111, 103, 114, 97, 109]⟩, (.str ⟨#[66, 97, 100, 80, 114, 111, 103, 114, 97, 109]⟩ 240), (.ref 53)⟩, ⟨PySem.PyData.keyHash w.params ⟨#[66, 97, 100, 84, 101, 120, 116]⟩, (.str ⟨#[66, 97, 100, 84, 101, 120, 116]⟩ 267), (.ref 74)⟩, ⟨PySem.PyData.keyHash w.params ⟨#[66, 97, 100, 86, 97, 108, 117, 101]⟩, (.str ⟨#[66, 97, 100, 86, 97, 108, 117, 101]⟩ 294), (.ref 95)⟩, ⟨PySem.PyData.keyHash w.params ⟨#[79, 116, 104, 101, 114, 83, 116, 111, 99, 107]⟩, (.str ⟨#[79, 116, 104, 101, 114, 83, 116, 111, 99, 107]⟩ 323), (.ref 116)⟩, ⟨PySem.PyData.keyHash w.params ⟨#[84, 111, 111, 77, 97, 110, 121]⟩, (.str ⟨#[84, 111, 111, 77, 97, 110, 121]⟩ 350), (.ref 137)⟩, ⟨PySem.PyData.keyHash w.params ⟨#[78, 111, 86, 97, 114, 105, 97, 98, 108, 101]⟩, (.str ⟨#[78, 111, 86, 97, 114, 105, 97, 98, 108, 101]⟩ 377), (.ref 158)⟩, ⟨PySem.PyData.keyHash w.params ⟨#[78, 111, 116, 69, 120, 97, 99, 116]⟩, (.str ⟨#[78, 111, 116, 69, 120, 97, 99, 116]⟩ 404), (.ref 179)⟩, ⟨PySem.PyData.keyHash w.params ⟨#[69, 109, 112, 116, 121, 83, 112, 97, 110]⟩, (.str ⟨#[69, 109, 112, 116, 121, 83, 112, 97, 110]⟩ 420), (.ref 191)⟩, ⟨PySem.PyData.keyHash w.params ⟨#[66, 97, 100, 78, 97, 109, 101]⟩, (.str ⟨#[66, 97, 100, 78, 97, 109, 101]⟩ 447), (.ref 212)⟩, ⟨PySem.PyData.keyHash w.params ⟨#[66, 97, 100, 82, 117, 108, 101]⟩, (.str ⟨#[66, 97, 100, 82, 117, 108, 101]⟩ 476), (.ref 233)⟩, ⟨PySem.PyData.keyHash w.params ⟨#[82, 101, 115, 116, 108, 101, 115, 115]⟩, (.str ⟨#[82, 101, 115, 116, 108, 101, 115, 115]⟩ 507), (.ref 254)⟩, ⟨PySem.PyData.keyHash w.params ⟨#[66, 114, 111, 107, 101, 110]⟩, (.str ⟨#[66, 114, 111, 107, 101, 110]⟩ 536), (.ref 275)⟩, ⟨PySem.PyData.keyHash w.params ⟨#[83, 101, 97, 109]⟩, (.str ⟨#[83, 101, 97, 109]⟩ 563), (.ref 296)⟩] 24), #[]⟩, boot_o_4 w.params, boot_o_5 w.params, boot_o_6 w.params, boot_o_7 w.params, boot_o_8 w.params, boot_o_9 w.params, boot_o_10 w.params, ⟨(.type "tuple"), none, (.seq #[] 0), #[]⟩, ⟨.none, none, (.fields #[(.int 1 0), (.int 0 0), (.ref 20), (.int 5 0), (.int 0 0), (.ref 27), (.int 7 0), (.int 0 0), (.ref 41), (.int 12 0), (.int 0 0), (.ref 62), (.int 17 0), (.int 0 0), (.ref 83), (.int 22 0), (.int 0 0), (.ref 104), (.int 28 0), (.int 0 0), (.ref 125), (.int 33 0), (.int 0 0), (.ref 146), (.int 38 0), (.int 0 0), (.ref 167), (.int 43 0), (.int 0 0), (.ref 187), (.int 45 0), (.int 0 0), (.ref 200), (.int 50 0), (.int 0 0), (.ref 221), (.int 56 0), (.int 0 0), (.ref 242), (.int 63 0), (.int 0 0), (.ref 263), (.int 69 0), (.int 0 0), (.ref 284)]), #[]⟩, ⟨(.type "code"), none, (.fields #[(.str ⟨#[60, 109, 111, 100, 117, 108, 101, 62]⟩ 182), (.str ⟨#[60, 109, 111, 100, 117, 108, 101, 62]⟩ 183), (.str ⟨#[47, 99, 108, 97, 105, 109, 47, 99, 117, 116, 46, 112, 121]⟩ 184), (.int 1 0), (.int 0 0), (.int 0 0), (.int 0 0), (.int 0 0), (.ref 11), (.bool false), (.int 181 0), (.ref 12), .none, .none, .none, .none, (.int 185 0), (.int 1 0), (.str ⟨#[47, 99, 108, 97, 105, 109, 47, 99, 117, 116, 46, 112, 121]⟩ 186)]), #[]⟩, ⟨(.type "frame"), none, .plain, #[(some (.ref 13)), (some (.ref 3)), (some (.ref 3)), none, (some (.str ⟨#[95, 95, 109, 97, 105, 110, 95, 95]⟩ 164)), none, (some (.ref 0))]⟩]
def O1 : List Nat := []
def A1 : List Nat := [29, 30, 31, 32, 38, 49, 50, 51, 52, 53, 197, 208, 209, 210, 211, 212, 281, 292, 293, 294, 295, 296]
def G1 (p : Program) (w : World) : List Obj := [⟨(.type "tuple"), none, (.seq #[] 0), #[]⟩,
  ⟨(.type "dict"), none, (.dict #[⟨PySem.PyData.keyHash w.params ⟨#[95, 95, 109, 111, 100, 117, 108, 101, 95, 95]⟩, (.str ⟨#[95, 95, 109, 111, 100, 117, 108, 101, 95, 95]⟩ 203), (.str ⟨#[101, 118, 101, 114, 121, 110, 97, 109, 101, 46, 101, 114, 114, 111, 114, 115]⟩ 194)⟩, ⟨PySem.PyData.keyHash w.params ⟨#[95, 95, 102, 105, 114, 115, 116, 108, 105, 110, 101, 110, 111, 95, 95]⟩, (.str ⟨#[95, 95, 102, 105, 114, 115, 116, 108, 105, 110, 101, 110, 111, 95, 95]⟩ 207), (.int 5 206)⟩, ⟨PySem.PyData.keyHash w.params ⟨#[95, 95, 115, 116, 97, 116, 105, 99, 95, 97, 116, 116, 114, 105, 98, 117, 116, 101, 115, 95, 95]⟩, (.str ⟨#[95, 95, 115, 116, 97, 116, 105, 99, 95, 97, 116, 116, 114, 105, 98, 117, 116, 101, 115, 95, 95]⟩ 208), (.ref 29)⟩, ⟨PySem.PyData.keyHash w.params ⟨#[95, 95, 119, 101, 97, 107, 114, 101, 102, 95, 95]⟩, (.str ⟨#[95, 95, 119, 101, 97, 107, 114, 101, 102, 95, 95]⟩ 210), (.ref 32)⟩, ⟨PySem.PyData.keyHash w.params ⟨#[95, 95, 100, 111, 99, 95, 95]⟩, (.str ⟨#[95, 95, 100, 111, 99, 95, 95]⟩ 211), .none⟩] 3), #[]⟩,
  ⟨(.type "type"), none, (.cls ⟨⟨#[69, 118, 101, 114, 121, 110, 97, 109, 101, 69, 114, 114, 111, 114]⟩, [(.type "ValueError")], [(.ref 31), (.type "ValueError"), (.type "Exception"), (.type "BaseException"), (.type "object")], 30, ⟨#[69, 118, 101, 114, 121, 110, 97, 109, 101, 69, 114, 114, 111, 114]⟩, true, [], [(.ref 53), (.ref 74), (.ref 95), (.ref 116), (.ref 137), (.ref 158), (.ref 179), (.ref 191), (.ref 212), (.ref 233), (.ref 254), (.ref 275), (.ref 296)], false, none, false⟩), #[(some (.ref 22)), none, (some (.str ⟨#[69, 118, 101, 114, 121, 110, 97, 109, 101, 69, 114, 114, 111, 114]⟩ 196)), (some (.str ⟨#[69, 118, 101, 114, 121, 110, 97, 109, 101, 69, 114, 114, 111, 114]⟩ 204)), (some (.builtin "ValueError.__new__")), (some (.bool true))]⟩,
  ⟨(.type "getset_descriptor"), none, (.fields #[(.str ⟨#[95, 95, 119, 101, 97, 107, 114, 101, 102, 95, 95]⟩ 209), (.ref 31), (.builtin "ExceptionGroup.__weakref__"), .none]), #[]⟩,
  ⟨(.type "cell"), none, (.cell (some (.ref 53))), #[]⟩,
  ⟨(.type "code"), none, (.fields #[(.str ⟨#[95, 95, 105, 110, 105, 116, 95, 95]⟩ 226), (.str ⟨#[66, 97, 100, 80, 114, 111, 103, 114, 97, 109, 46, 95, 95, 105, 110, 105, 116, 95, 95]⟩ 227), (.str ⟨#[47, 99, 108, 97, 105, 109, 47, 99, 117, 116, 46, 112, 121]⟩ 228), (.int 9 0), (.int 2 0), (.int 0 0), (.int 0 0), (.int 3 0), (.ref 44), (.bool true), (.int 181 0), (.ref 45), .none, (.ref 46), (.ref 47), (.ref 48), (.int 232 0), (.int 9 0), (.str ⟨#[47, 99, 108, 97, 105, 109, 47, 99, 117, 116, 46, 112, 121]⟩ 233)]), #[]⟩,
  ⟨(.type "function"), none, (.func (fnX ⟨#[95, 95, 105, 110, 105, 116, 95, 95]⟩ ⟨#[66, 97, 100, 80, 114, 111, 103, 114, 97, 109, 46, 95, 95, 105, 110, 105, 116, 95, 95]⟩ (kidA (stA p 3) 0) [(⟨#[95, 95, 99, 108, 97, 115, 115, 95, 95]⟩, 38)] .none .none .none (.str ⟨#[101, 118, 101, 114, 121, 110, 97, 109, 101, 46, 101, 114, 114, 111, 114, 115]⟩ 194) none (.ref 49) (.ref 43))), #[]⟩,
  ⟨(.type "tuple"), none, (.seq #[(.str ⟨#[112, 108, 97, 99, 101]⟩ 235)] 0), #[]⟩,
  ⟨(.type "dict"), none, (.dict #[⟨PySem.PyData.keyHash w.params ⟨#[95, 95, 109, 111, 100, 117, 108, 101, 95, 95]⟩, (.str ⟨#[95, 95, 109, 111, 100, 117, 108, 101, 95, 95]⟩ 221), (.str ⟨#[101, 118, 101, 114, 121, 110, 97, 109, 101, 46, 101, 114, 114, 111, 114, 115]⟩ 194)⟩, ⟨PySem.PyData.keyHash w.params ⟨#[95, 95, 102, 105, 114, 115, 116, 108, 105, 110, 101, 110, 111, 95, 95]⟩, (.str ⟨#[95, 95, 102, 105, 114, 115, 116, 108, 105, 110, 101, 110, 111, 95, 95]⟩ 225), (.int 7 224)⟩, ⟨PySem.PyData.keyHash w.params ⟨#[95, 95, 105, 110, 105, 116, 95, 95]⟩, (.str ⟨#[95, 95, 105, 110, 105, 116, 95, 95]⟩ 234), (.ref 50)⟩, ⟨PySem.PyData.keyHash w.params ⟨#[95, 95, 115, 116, 97, 116, 105, 99, 95, 97, 116, 116, 114, 105, 98, 117, 116, 101, 115, 95, 95]⟩, (.str ⟨#[95, 95, 115, 116, 97, 116, 105, 99, 95, 97, 116, 116, 114, 105, 98, 117, 116, 101, 115, 95, 95]⟩ 236), (.ref 51)⟩, ⟨PySem.PyData.keyHash w.params ⟨#[95, 95, 100, 111, 99, 95, 95]⟩, (.str ⟨#[95, 95, 100, 111, 99, 95, 95]⟩ 238), .none⟩] 3), #[]⟩,
  ⟨(.type "type"), none, (.cls ⟨⟨#[66, 97, 100, 80, 114, 111, 103, 114, 97, 109]⟩, [(.ref 31)], [(.ref 53), (.ref 31), (.type "ValueError"), (.type "Exception"), (.type "BaseException"), (.type "object")], 52, ⟨#[66, 97, 100, 80, 114, 111, 103, 114, 97, 109]⟩, true, [], [], false, none, false⟩), #[(some (.ref 35)), none, (some (.str ⟨#[66, 97, 100, 80, 114, 111, 103, 114, 97, 109]⟩ 214)), (some (.str ⟨#[66, 97, 100, 80, 114, 111, 103, 114, 97, 109]⟩ 222)), (some (.builtin "ValueError.__new__")), (some (.bool true))]⟩,
  ⟨(.type "cell"), none, (.cell (some (.ref 212))), #[]⟩,
  ⟨(.type "code"), none, (.fields #[(.str ⟨#[95, 95, 105, 110, 105, 116, 95, 95]⟩ 433), (.str ⟨#[66, 97, 100, 78, 97, 109, 101, 46, 95, 95, 105, 110, 105, 116, 95, 95]⟩ 434), (.str ⟨#[47, 99, 108, 97, 105, 109, 47, 99, 117, 116, 46, 112, 121]⟩ 435), (.int 47 0), (.int 2 0), (.int 0 0), (.int 0 0), (.int 3 0), (.ref 203), (.bool true), (.int 181 0), (.ref 204), .none, (.ref 205), (.ref 206), (.ref 207), (.int 439 0), (.int 47 0), (.str ⟨#[47, 99, 108, 97, 105, 109, 47, 99, 117, 116, 46, 112, 121]⟩ 440)]), #[]⟩,
  ⟨(.type "function"), none, (.func (fnX ⟨#[95, 95, 105, 110, 105, 116, 95, 95]⟩ ⟨#[66, 97, 100, 78, 97, 109, 101, 46, 95, 95, 105, 110, 105, 116, 95, 95]⟩ (kidA (stA p 11) 0) [(⟨#[95, 95, 99, 108, 97, 115, 115, 95, 95]⟩, 197)] .none .none .none (.str ⟨#[101, 118, 101, 114, 121, 110, 97, 109, 101, 46, 101, 114, 114, 111, 114, 115]⟩ 194) none (.ref 208) (.ref 202))), #[]⟩,
  ⟨(.type "tuple"), none, (.seq #[(.str ⟨#[110, 97, 109, 101]⟩ 442)] 0), #[]⟩,
  ⟨(.type "dict"), none, (.dict #[⟨PySem.PyData.keyHash w.params ⟨#[95, 95, 109, 111, 100, 117, 108, 101, 95, 95]⟩, (.str ⟨#[95, 95, 109, 111, 100, 117, 108, 101, 95, 95]⟩ 428), (.str ⟨#[101, 118, 101, 114, 121, 110, 97, 109, 101, 46, 101, 114, 114, 111, 114, 115]⟩ 194)⟩, ⟨PySem.PyData.keyHash w.params ⟨#[95, 95, 102, 105, 114, 115, 116, 108, 105, 110, 101, 110, 111, 95, 95]⟩, (.str ⟨#[95, 95, 102, 105, 114, 115, 116, 108, 105, 110, 101, 110, 111, 95, 95]⟩ 432), (.int 45 431)⟩, ⟨PySem.PyData.keyHash w.params ⟨#[95, 95, 105, 110, 105, 116, 95, 95]⟩, (.str ⟨#[95, 95, 105, 110, 105, 116, 95, 95]⟩ 441), (.ref 209)⟩, ⟨PySem.PyData.keyHash w.params ⟨#[95, 95, 115, 116, 97, 116, 105, 99, 95, 97, 116, 116, 114, 105, 98, 117, 116, 101, 115, 95, 95]⟩, (.str ⟨#[95, 95, 115, 116, 97, 116, 105, 99, 95, 97, 116, 116, 114, 105, 98, 117, 116, 101, 115, 95, 95]⟩ 443), (.ref 210)⟩, ⟨PySem.PyData.keyHash w.params ⟨#[95, 95, 100, 111, 99, 95, 95]⟩, (.str ⟨#[95, 95, 100, 111, 99, 95, 95]⟩ 445), .none⟩] 3), #[]⟩,
  ⟨(.type "type"), none, (.cls ⟨⟨#[66, 97, 100, 78, 97, 109, 101]⟩, [(.ref 31)], [(.ref 212), (.ref 31), (.type "ValueError"), (.type "Exception"), (.type "BaseException"), (.type "object")], 211, ⟨#[66, 97, 100, 78, 97, 109, 101]⟩, true, [], [], false, none, false⟩), #[(some (.ref 194)), none, (some (.str ⟨#[66, 97, 100, 78, 97, 109, 101]⟩ 421)), (some (.str ⟨#[66, 97, 100, 78, 97, 109, 101]⟩ 429)), (some (.builtin "ValueError.__new__")), (some (.bool true))]⟩,
  ⟨(.type "cell"), none, (.cell (some (.ref 296))), #[]⟩,
  ⟨(.type "code"), none, (.fields #[(.str ⟨#[95, 95, 105, 110, 105, 116, 95, 95]⟩ 549), (.str ⟨#[83, 101, 97, 109, 46, 95, 95, 105, 110, 105, 116, 95, 95]⟩ 550), (.str ⟨#[47, 99, 108, 97, 105, 109, 47, 99, 117, 116, 46, 112, 121]⟩ 551), (.int 71 0), (.int 2 0), (.int 0 0), (.int 0 0), (.int 3 0), (.ref 287), (.bool true), (.int 181 0), (.ref 288), .none, (.ref 289), (.ref 290), (.ref 291), (.int 555 0), (.int 71 0), (.str ⟨#[47, 99, 108, 97, 105, 109, 47, 99, 117, 116, 46, 112, 121]⟩ 556)]), #[]⟩,
  ⟨(.type "function"), none, (.func (fnX ⟨#[95, 95, 105, 110, 105, 116, 95, 95]⟩ ⟨#[83, 101, 97, 109, 46, 95, 95, 105, 110, 105, 116, 95, 95]⟩ (kidA (stA p 15) 0) [(⟨#[95, 95, 99, 108, 97, 115, 115, 95, 95]⟩, 281)] .none .none .none (.str ⟨#[101, 118, 101, 114, 121, 110, 97, 109, 101, 46, 101, 114, 114, 111, 114, 115]⟩ 194) none (.ref 292) (.ref 286))), #[]⟩,
  ⟨(.type "tuple"), none, (.seq #[(.str ⟨#[102, 105, 114, 115, 116]⟩ 558)] 0), #[]⟩,
  ⟨(.type "dict"), none, (.dict #[⟨PySem.PyData.keyHash w.params ⟨#[95, 95, 109, 111, 100, 117, 108, 101, 95, 95]⟩, (.str ⟨#[95, 95, 109, 111, 100, 117, 108, 101, 95, 95]⟩ 544), (.str ⟨#[101, 118, 101, 114, 121, 110, 97, 109, 101, 46, 101, 114, 114, 111, 114, 115]⟩ 194)⟩, ⟨PySem.PyData.keyHash w.params ⟨#[95, 95, 102, 105, 114, 115, 116, 108, 105, 110, 101, 110, 111, 95, 95]⟩, (.str ⟨#[95, 95, 102, 105, 114, 115, 116, 108, 105, 110, 101, 110, 111, 95, 95]⟩ 548), (.int 69 547)⟩, ⟨PySem.PyData.keyHash w.params ⟨#[95, 95, 105, 110, 105, 116, 95, 95]⟩, (.str ⟨#[95, 95, 105, 110, 105, 116, 95, 95]⟩ 557), (.ref 293)⟩, ⟨PySem.PyData.keyHash w.params ⟨#[95, 95, 115, 116, 97, 116, 105, 99, 95, 97, 116, 116, 114, 105, 98, 117, 116, 101, 115, 95, 95]⟩, (.str ⟨#[95, 95, 115, 116, 97, 116, 105, 99, 95, 97, 116, 116, 114, 105, 98, 117, 116, 101, 115, 95, 95]⟩ 559), (.ref 294)⟩, ⟨PySem.PyData.keyHash w.params ⟨#[95, 95, 100, 111, 99, 95, 95]⟩, (.str ⟨#[95, 95, 100, 111, 99, 95, 95]⟩ 561), .none⟩] 3), #[]⟩,
  ⟨(.type "type"), none, (.cls ⟨⟨#[83, 101, 97, 109]⟩, [(.ref 31)], [(.ref 296), (.ref 31), (.type "ValueError"), (.type "Exception"), (.type "BaseException"), (.type "object")], 295, ⟨#[83, 101, 97, 109]⟩, true, [], [], false, none, false⟩), #[(some (.ref 278)), none, (some (.str ⟨#[83, 101, 97, 109]⟩ 537)), (some (.str ⟨#[83, 101, 97, 109]⟩ 545)), (some (.builtin "ValueError.__new__")), (some (.bool true))]⟩]
theorem grp1 (w : World) (os : OsState) (g : Nat → Obj) : grpO (HandSHeadRun.stepQ (HandSHeadRun.denQ HandSHeadRun.tabQ) PySem.W.Fast.tw10313853756172224601 w) 3580 (O1 ++ A1) (boot_heap w.params).life boot_drawn 187 os (F0 w ++ (List.range 0).map fun i => g (15 + i)) (piecesOf (((PySem.W.Fast.tw10313853756172224601).main.body).take 16) (envA PySem.W.Fast.tw10313853756172224601 13 14) (codeA PySem.W.Fast.tw10313853756172224601 13 14) ⟨0, 0, 0, 0⟩ [topFrame ⟨0, 0, 0, 0⟩]) =
    some (.next, (codeA PySem.W.Fast.tw10313853756172224601 13 14), ⟨69, 0, 73, 26⟩, 299, (boot_heap w.params).life, 0, boot_drawn, 564, os, (F1 w).map some, (O1.map g ++ G1 PySem.W.Fast.tw10313853756172224601 w).map some) := by kernel_rfl
def F2 (w : World) : List Obj := [boot_o_0 w.params, boot_o_1 w.params, ⟨.none, none, (.dict #[] 0), #[]⟩, ⟨(.type "dict"), none, (.dict #[⟨PySem.PyData.keyHash w.params ⟨#[95, 95, 110, 97, 109, 101, 95, 95]⟩, (.str ⟨#[95, 95, 110, 97, 109, 101, 95, 95]⟩ 165), (.str ⟨#[101, 118, 101, 114, 121, 110, 97, 109, 101, 46, 116, 114, 101, 101, 115]⟩ 746)⟩, ⟨PySem.PyData.keyHash w.params ⟨#[95, 95, 100, 111, 99, 95, 95]⟩, (.str ⟨#[95, 95, 100, 111, 99, 95, 95]⟩ 166), .none⟩, ⟨PySem.PyData.keyHash w.params ⟨#[95, 95, 112, 97, 99, 107, 97, 103, 101, 95, 95]⟩, (.str ⟨#[95, 95, 112, 97, 99, 107, 97, 103, 101, 95, 95]⟩ 167), .none⟩, ⟨PySem.PyData.keyHash w.params ⟨#[95, 95, 108, 111, 97, 100, 101, 114, 95, 95]⟩, (.str ⟨#[95, 95, 108, 111, 97, 100, 101, 114, 95, 95]⟩ 168), (.builtin "__main__.__loader__#opaque")⟩, ⟨PySem.PyData.keyHash w.params ⟨#[95, 95, 115, 112, 101, 99, 95, 95]⟩, (.str ⟨#[95, 95, 115, 112, 101, 99, 95, 95]⟩ 169), .none⟩, ⟨PySem.PyData.keyHash w.params ⟨#[95, 95, 97, 110, 110, 111, 116, 97, 116, 105, 111, 110, 115, 95, 95]⟩, (.str ⟨#[95, 95, 97, 110, 110, 111, 116, 97, 116, 105, 111, 110, 115, 95, 95]⟩ 170), (.ref 6)⟩, ⟨PySem.PyData.keyHash w.params ⟨#[95, 95, 98, 117, 105, 108, 116, 105, 110, 115, 95, 95]⟩, (.str ⟨#[95, 95, 98, 117, 105, 108, 116, 105, 110, 115, 95, 95]⟩ 171), (.ref 4)⟩, ⟨PySem.PyData.keyHash w.params ⟨#[95, 95, 102, 105, 108, 101, 95, 95]⟩, (.str ⟨#[95, 95, 102, 105, 108, 101, 95, 95]⟩ 173), (.str ⟨#[47, 99, 108, 97, 105, 109, 47, 99, 117, 116, 46, 112, 121]⟩ 172)⟩, ⟨PySem.PyData.keyHash w.params ⟨#[95, 95, 99, 97, 99, 104, 101, 100, 95, 95]⟩, (.str ⟨#[95, 95, 99, 97, 99, 104, 101, 100, 95, 95]⟩ 174), .none⟩, ⟨PySem.PyData.keyHash w.params ⟨#[95, 119, 97, 108, 108]⟩, (.str ⟨#[95, 119, 97, 108, 108]⟩ 193), (.ref 21)⟩, ⟨PySem.PyData.keyHash w.params ⟨#[69, 118, 101, 114, 121, 110, 97, 109, 101, 69, 114, 114, 111, 114]⟩, (.str ⟨#[69, 118, 101, 114, 121, 110, 97, 109, 101, 69, 114, 114, 111, 114]⟩ 213), (.ref 31)⟩, ⟨PySem.PyData.keyHash w.params ⟨#[66, 97, 100, 80, 114, 111, 103, 114, 97, 109]⟩, (.str ⟨#[66, 97, 100, 80, 114, 111, 103, 114, 97, 109]⟩ 240), (.ref 53)⟩, ⟨PySem.PyData.keyHash w.params ⟨#[66, 97, 100, 84, 101, 120, 116]⟩, (.str ⟨#[66, 97, 100, 84, 101, 120, 116]⟩ 267), (.ref 74)⟩, ⟨PySem.PyData.keyHash w.params ⟨#[66, 97, 100, 86, 97, 108, 117, 101]⟩, (.str ⟨#[66, 97, 100, 86, 97, 108, 117, 101]⟩ 294), (.ref 95)⟩, ⟨PySem.PyData.keyHash w.params ⟨#[79, 116, 104, 101, 114, 83, 116, 111, 99, 107]⟩, (.str ⟨#[79, 116, 104, 101, 114, 83, 116, 111, 99, 107]⟩ 323), (.ref 116)⟩, ⟨PySem.PyData.keyHash w.params ⟨#[84, 111, 111, 77, 97, 110, 121]⟩, (.str ⟨#[84, 111, 111, 77, 97, 110, 121]⟩ 350), (.ref 137)⟩, ⟨PySem.PyData.keyHash w.params ⟨#[78, 111, 86, 97, 114, 105, 97, 98, 108, 101]⟩, (.str ⟨#[78, 111, 86, 97, 114, 105, 97, 98, 108, 101]⟩ 377), (.ref 158)⟩, ⟨PySem.PyData.keyHash w.params ⟨#[78, 111, 116, 69, 120, 97, 99, 116]⟩, (.str ⟨#[78, 111, 116, 69, 120, 97, 99, 116]⟩ 404), (.ref 179)⟩, ⟨PySem.PyData.keyHash w.params ⟨#[69, 109, 112, 116, 121, 83, 112, 97, 110]⟩, (.str ⟨#[69, 109, 112, 116, 121, 83, 112, 97, 110]⟩ 420), (.ref 191)⟩, ⟨PySem.PyData.keyHash w.params ⟨#[66, 97, 100, 78, 97, 109, 101]⟩, (.str ⟨#[66, 97, 100, 78, 97, 109, 101]⟩ 447), (.ref 212)⟩, ⟨PySem.PyData.keyHash w.params ⟨#[66, 97, 100, 82, 117, 108, 101]⟩, (.str ⟨#[66, 97, 100, 82, 117, 108, 101]⟩ 476), (.ref 233)⟩, ⟨PySem.PyData.keyHash w.params ⟨#[82, 101, 115, 116, 108, 101, 115, 115]⟩, (.str ⟨#[82, 101, 115, 116, 108, 101, 115, 115]⟩ 507), (.ref 254)⟩, ⟨PySem.PyData.keyHash w.params ⟨#[66, 114, 111, 107, 101, 110]⟩, (.str ⟨#[66, 114, 111, 107, 101, 110]⟩ 536), (.ref 275)⟩, ⟨PySem.PyData.keyHash w.params ⟨#[83, 101, 97, 109]⟩, (.str ⟨#[83, 101, 97, 109]⟩ 563), (.ref 296)⟩, ⟨PySem.PyData.keyHash w.params ⟨#[111, 99, 99, 117, 114, 114, 105, 110, 103]⟩, (.str ⟨#[111, 99, 99, 117, 114, 114, 105, 110, 103]⟩ 575), (.ref 305)⟩, ⟨PySem.PyData.keyHash w.params ⟨#[97, 115, 99, 101, 110, 100, 105, 110, 103]⟩, (.str ⟨#[97, 115, 99, 101, 110, 100, 105, 110, 103]⟩ 581), (.ref 310)⟩, ⟨PySem.PyData.keyHash w.params ⟨#[102, 114, 101, 101]⟩, (.str ⟨#[102, 114, 101, 101]⟩ 588), (.ref 317)⟩, ⟨PySem.PyData.keyHash w.params ⟨#[103, 114, 101, 97, 116, 101, 115, 116]⟩, (.str ⟨#[103, 114, 101, 97, 116, 101, 115, 116]⟩ 595), (.ref 324)⟩, ⟨PySem.PyData.keyHash w.params ⟨#[112, 117, 116]⟩, (.str ⟨#[112, 117, 116]⟩ 601), (.ref 329)⟩, ⟨PySem.PyData.keyHash w.params ⟨#[102, 114, 101, 115, 104]⟩, (.str ⟨#[102, 114, 101, 115, 104]⟩ 609), (.ref 336)⟩, ⟨PySem.PyData.keyHash w.params ⟨#[119, 97, 121, 115]⟩, (.str ⟨#[119, 97, 121, 115]⟩ 615), (.ref 341)⟩, ⟨PySem.PyData.keyHash w.params ⟨#[108, 111, 110, 103, 101, 114, 95, 119, 97, 121, 115]⟩, (.str ⟨#[108, 111, 110, 103, 101, 114, 95, 119, 97, 121, 115]⟩ 621), (.ref 346)⟩, ⟨PySem.PyData.keyHash w.params ⟨#[119, 105, 100, 101, 110, 101, 100]⟩, (.str ⟨#[119, 105, 100, 101, 110, 101, 100]⟩ 627), (.ref 351)⟩, ⟨PySem.PyData.keyHash w.params ⟨#[101, 110, 111, 117, 103, 104]⟩, (.str ⟨#[101, 110, 111, 117, 103, 104]⟩ 636), (.ref 358)⟩, ⟨PySem.PyData.keyHash w.params ⟨#[115, 116, 97, 110, 100, 115]⟩, (.str ⟨#[115, 116, 97, 110, 100, 115]⟩ 646), (.ref 365)⟩, ⟨PySem.PyData.keyHash w.params ⟨#[102, 105, 108, 108, 105, 110, 103, 115]⟩, (.str ⟨#[102, 105, 108, 108, 105, 110, 103, 115]⟩ 652), (.ref 370)⟩, ⟨PySem.PyData.keyHash w.params ⟨#[116, 111, 108, 100, 95, 116, 101, 114, 109, 115]⟩, (.str ⟨#[116, 111, 108, 100, 95, 116, 101, 114, 109, 115]⟩ 658), (.ref 375)⟩, ⟨PySem.PyData.keyHash w.params ⟨#[117, 110, 108, 105, 107, 101]⟩, (.str ⟨#[117, 110, 108, 105, 107, 101]⟩ 668), (.ref 382)⟩, ⟨PySem.PyData.keyHash w.params ⟨#[101, 113, 117, 97, 108, 95, 108, 105, 115, 116, 115]⟩, (.str ⟨#[101, 113, 117, 97, 108, 95, 108, 105, 115, 116, 115]⟩ 674), (.ref 387)⟩, ⟨PySem.PyData.keyHash w.params ⟨#[105, 115, 95, 102, 108, 97, 116]⟩, (.str ⟨#[105, 115, 95, 102, 108, 97, 116]⟩ 680), (.ref 392)⟩, ⟨PySem.PyData.keyHash w.params ⟨#[102, 108, 97, 116, 95, 114, 111, 119, 115]⟩, (.str ⟨#[102, 108, 97, 116, 95, 114, 111, 119, 115]⟩ 686), (.ref 397)⟩, ⟨PySem.PyData.keyHash w.params ⟨#[115, 97, 109, 101]⟩, (.str ⟨#[115, 97, 109, 101]⟩ 699), (.ref 404)⟩, ⟨PySem.PyData.keyHash w.params ⟨#[109, 101, 109, 98, 101, 114]⟩, (.str ⟨#[109, 101, 109, 98, 101, 114]⟩ 705), (.ref 409)⟩, ⟨PySem.PyData.keyHash w.params ⟨#[119, 105, 116, 104, 105, 110]⟩, (.str ⟨#[119, 105, 116, 104, 105, 110]⟩ 711), (.ref 414)⟩, ⟨PySem.PyData.keyHash w.params ⟨#[104, 97, 115, 95, 115, 101, 116]⟩, (.str ⟨#[104, 97, 115, 95, 115, 101, 116]⟩ 719), (.ref 421)⟩, ⟨PySem.PyData.keyHash w.params ⟨#[114, 111, 119, 95, 111, 118, 101, 114]⟩, (.str ⟨#[114, 111, 119, 95, 111, 118, 101, 114]⟩ 725), (.ref 426)⟩, ⟨PySem.PyData.keyHash w.params ⟨#[98, 117, 105, 108, 116]⟩, (.str ⟨#[98, 117, 105, 108, 116]⟩ 731), (.ref 431)⟩, ⟨PySem.PyData.keyHash w.params ⟨#[115, 104, 105, 102, 116, 101, 100]⟩, (.str ⟨#[115, 104, 105, 102, 116, 101, 100]⟩ 737), (.ref 436)⟩, ⟨PySem.PyData.keyHash w.params ⟨#[69, 77, 80, 84, 89]⟩, (.str ⟨#[69, 77, 80, 84, 89]⟩ 739), (.ref 439)⟩, ⟨PySem.PyData.keyHash w.params ⟨#[115, 116, 111, 99, 107]⟩, (.str ⟨#[115, 116, 111, 99, 107]⟩ 745), (.ref 444)⟩, ⟨PySem.PyData.keyHash w.params ⟨#[82, 69, 83, 69, 82, 86, 69, 68]⟩, (.str ⟨#[82, 69, 83, 69, 82, 86, 69, 68]⟩ 764), (.ref 445)⟩, ⟨PySem.PyData.keyHash w.params ⟨#[68, 69, 69, 80, 69, 83, 84, 95, 116, 114, 101, 101, 115]⟩, (.str ⟨#[68, 69, 69, 80, 69, 83, 84, 95, 116, 114, 101, 101, 115]⟩ 766), (.int 40 765)⟩, ⟨PySem.PyData.keyHash w.params ⟨#[76, 69, 86, 69, 76, 83]⟩, (.str ⟨#[76, 69, 86, 69, 76, 83]⟩ 768), (.int 10 767)⟩, ⟨PySem.PyData.keyHash w.params ⟨#[71, 82, 69, 65, 84, 69, 83, 84]⟩, (.str ⟨#[71, 82, 69, 65, 84, 69, 83, 84]⟩ 772), (.int 1000000000000000000000000000000000000000000000000000000000000 771)⟩, ⟨PySem.PyData.keyHash w.params ⟨#[83, 73, 71, 78, 83]⟩, (.str ⟨#[83, 73, 71, 78, 83]⟩ 779), (.ref 446)⟩] 55), #[]⟩, boot_o_4 w.params, boot_o_5 w.params, boot_o_6 w.params, boot_o_7 w.params, boot_o_8 w.params, boot_o_9 w.params, boot_o_10 w.params, ⟨(.type "tuple"), none, (.seq #[] 0), #[]⟩, ⟨.none, none, (.fields #[(.int 1 0), (.int 0 0), (.ref 20), (.int 5 0), (.int 0 0), (.ref 27), (.int 7 0), (.int 0 0), (.ref 41), (.int 12 0), (.int 0 0), (.ref 62), (.int 17 0), (.int 0 0), (.ref 83), (.int 22 0), (.int 0 0), (.ref 104), (.int 28 0), (.int 0 0), (.ref 125), (.int 33 0), (.int 0 0), (.ref 146), (.int 38 0), (.int 0 0), (.ref 167), (.int 43 0), (.int 0 0), (.ref 187), (.int 45 0), (.int 0 0), (.ref 200), (.int 50 0), (.int 0 0), (.ref 221), (.int 56 0), (.int 0 0), (.ref 242), (.int 63 0), (.int 0 0), (.ref 263), (.int 69 0), (.int 0 0), (.ref 284), (.int 75 0), (.int 0 0), (.ref 304), (.int 87 0), (.int 0 0), (.ref 309), (.int 89 0), (.int 0 0), (.ref 316), (.int 91 0), (.int 0 0), (.ref 323), (.int 93 0), (.int 0 0), (.ref 328), (.int 107 0), (.int 0 0), (.ref 335), (.int 109 0), (.int 0 0), (.ref 340), (.int 114 0), (.int 0 0), (.ref 345), (.int 117 0), (.int 0 0), (.ref 350), (.int 124 0), (.int 0 0), (.ref 357), (.int 130 0), (.int 0 0), (.ref 364), (.int 132 0), (.int 0 0), (.ref 369), (.int 136 0), (.int 0 0), (.ref 374), (.int 141 0), (.int 0 0), (.ref 381), (.int 155 0), (.int 0 0), (.ref 386), (.int 157 0), (.int 0 0), (.ref 391), (.int 159 0), (.int 0 0), (.ref 396), (.int 161 0), (.int 0 0), (.ref 403), (.int 175 0), (.int 0 0), (.ref 408), (.int 187 0), (.int 0 0), (.ref 413), (.int 198 0), (.int 0 0), (.ref 420), (.int 204 0), (.int 0 0), (.ref 425), (.int 208 0), (.int 0 0), (.ref 430), (.int 223 0), (.int 0 0), (.ref 435), (.int 235 0), (.int 0 0), (.ref 443)]), #[]⟩, ⟨(.type "code"), none, (.fields #[(.str ⟨#[60, 109, 111, 100, 117, 108, 101, 62]⟩ 182), (.str ⟨#[60, 109, 111, 100, 117, 108, 101, 62]⟩ 183), (.str ⟨#[47, 99, 108, 97, 105, 109, 47, 99, 117, 116, 46, 112, 121]⟩ 184), (.int 1 0), (.int 0 0), (.int 0 0), (.int 0 0), (.int 0 0), (.ref 11), (.bool false), (.int 181 0), (.ref 12), .none, .none, .none, .none, (.int 185 0), (.int 1 0), (.str ⟨#[47, 99, 108, 97, 105, 109, 47, 99, 117, 116, 46, 112, 121]⟩ 186)]), #[]⟩, ⟨(.type "frame"), none, .plain, #[(some (.ref 13)), (some (.ref 3)), (some (.ref 3)), none, (some (.str ⟨#[95, 95, 109, 97, 105, 110, 95, 95]⟩ 164)), none, (some (.ref 0))]⟩]
def O2 : List Nat := [29, 30, 31, 32, 38, 49, 50, 51, 52, 53, 197, 208, 209, 210, 211, 212, 281, 292, 293, 294, 295, 296]
def A2 : List Nat := [437, 438, 439, 443, 444, 445]
def G2 (p : Program) (w : World) : List Obj := [⟨(.type "tuple"), none, (.seq #[] 0), #[]⟩,
  ⟨(.type "tuple"), none, (.seq #[] 0), #[]⟩,
  ⟨(.type "tuple"), none, (.seq #[(.str ⟨#[115, 101, 116]⟩ 738), (.ref 437), (.ref 438)] 0), #[]⟩,
  ⟨(.type "code"), none, (.fields #[(.str ⟨#[115, 116, 111, 99, 107]⟩ 740), (.str ⟨#[115, 116, 111, 99, 107]⟩ 741), (.str ⟨#[47, 99, 108, 97, 105, 109, 47, 99, 117, 116, 46, 112, 121]⟩ 742), (.int 235 0), (.int 1 0), (.int 0 0), (.int 0 0), (.int 3 0), (.ref 440), (.bool true), (.int 181 0), (.ref 441), .none, .none, .none, (.ref 442), (.int 743 0), (.int 235 0), (.str ⟨#[47, 99, 108, 97, 105, 109, 47, 99, 117, 116, 46, 112, 121]⟩ 744)]), #[]⟩,
  ⟨(.type "function"), none, (.func (fnX ⟨#[115, 116, 111, 99, 107]⟩ ⟨#[115, 116, 111, 99, 107]⟩ (stA p 42) [] .none .none .none (.str ⟨#[101, 118, 101, 114, 121, 110, 97, 109, 101, 46, 101, 110, 103, 105, 110, 101]⟩ 564) none (.ref 443) .none)), #[]⟩,
  ⟨(.type "tuple"), none, (.seq #[(.str ⟨#[97, 108, 108]⟩ 748), (.str ⟨#[97, 110, 100]⟩ 749), (.str ⟨#[99, 111, 117, 110, 116]⟩ 750), (.str ⟨#[101, 108, 115, 101]⟩ 751), (.str ⟨#[101, 118, 101, 114, 121]⟩ 752), (.str ⟨#[102, 111, 114]⟩ 753), (.str ⟨#[105, 102]⟩ 754), (.str ⟨#[105, 110]⟩ 755), (.str ⟨#[106, 111, 105, 110]⟩ 756), (.str ⟨#[107, 110, 111, 119, 110]⟩ 757), (.str ⟨#[110, 111, 116]⟩ 758), (.str ⟨#[111, 114]⟩ 759), (.str ⟨#[112, 97, 115, 115]⟩ 760), (.str ⟨#[115, 111, 109, 101]⟩ 761), (.str ⟨#[116, 114, 117, 101]⟩ 762), (.str ⟨#[119, 104, 105, 108, 101]⟩ 763)] 0), #[]⟩]
theorem grp2 (w : World) (os : OsState) (g : Nat → Obj) : grpO (HandSHeadRun.stepQ (HandSHeadRun.denQ HandSHeadRun.tabQ) PySem.W.Fast.tw10313853756172224601 w) 805 (O2 ++ A2) (boot_heap w.params).life boot_drawn 564 os (F1 w ++ (List.range 284).map fun i => g (15 + i)) (piecesOf (((((PySem.W.Fast.tw10313853756172224601).main.body).drop 16)).take 33) (envA PySem.W.Fast.tw10313853756172224601 13 14) (codeA PySem.W.Fast.tw10313853756172224601 13 14) ⟨69, 0, 73, 26⟩ [topFrame ⟨0, 0, 0, 0⟩]) =
    some (.next, (codeA PySem.W.Fast.tw10313853756172224601 13 14), ⟨242, 0, 242, 5⟩, 447, (boot_heap w.params).life, 0, boot_drawn, 780, os, (F2 w).map some, (O2.map g ++ G2 PySem.W.Fast.tw10313853756172224601 w).map some) := by kernel_rfl
def F3 (w : World) : List Obj := [boot_o_0 w.params, boot_o_1 w.params, ⟨.none, none, (.dict #[] 0), #[]⟩, ⟨(.type "dict"), none, (.dict #[⟨PySem.PyData.keyHash w.params ⟨#[95, 95, 110, 97, 109, 101, 95, 95]⟩, (.str ⟨#[95, 95, 110, 97, 109, 101, 95, 95]⟩ 165), (.str ⟨#[101, 118, 101, 114, 121, 110, 97, 109, 101, 46, 116, 114, 101, 101, 115]⟩ 746)⟩, ⟨PySem.PyData.keyHash w.params ⟨#[95, 95, 100, 111, 99, 95, 95]⟩, (.str ⟨#[95, 95, 100, 111, 99, 95, 95]⟩ 166), .none⟩, ⟨PySem.PyData.keyHash w.params ⟨#[95, 95, 112, 97, 99, 107, 97, 103, 101, 95, 95]⟩, (.str ⟨#[95, 95, 112, 97, 99, 107, 97, 103, 101, 95, 95]⟩ 167), .none⟩, ⟨PySem.PyData.keyHash w.params ⟨#[95, 95, 108, 111, 97, 100, 101, 114, 95, 95]⟩, (.str ⟨#[95, 95, 108, 111, 97, 100, 101, 114, 95, 95]⟩ 168), (.builtin "__main__.__loader__#opaque")⟩, ⟨PySem.PyData.keyHash w.params ⟨#[95, 95, 115, 112, 101, 99, 95, 95]⟩, (.str ⟨#[95, 95, 115, 112, 101, 99, 95, 95]⟩ 169), .none⟩, ⟨PySem.PyData.keyHash w.params ⟨#[95, 95, 97, 110, 110, 111, 116, 97, 116, 105, 111, 110, 115, 95, 95]⟩, (.str ⟨#[95, 95, 97, 110, 110, 111, 116, 97, 116, 105, 111, 110, 115, 95, 95]⟩ 170), (.ref 6)⟩, ⟨PySem.PyData.keyHash w.params ⟨#[95, 95, 98, 117, 105, 108, 116, 105, 110, 115, 95, 95]⟩, (.str ⟨#[95, 95, 98, 117, 105, 108, 116, 105, 110, 115, 95, 95]⟩ 171), (.ref 4)⟩, ⟨PySem.PyData.keyHash w.params ⟨#[95, 95, 102, 105, 108, 101, 95, 95]⟩, (.str ⟨#[95, 95, 102, 105, 108, 101, 95, 95]⟩ 173), (.str ⟨#[47, 99, 108, 97, 105, 109, 47, 99, 117, 116, 46, 112, 121]⟩ 172)⟩, ⟨PySem.PyData.keyHash w.params ⟨#[95, 95, 99, 97, 99, 104, 101, 100, 95, 95]⟩, (.str ⟨#[95, 95, 99, 97, 99, 104, 101, 100, 95, 95]⟩ 174), .none⟩, ⟨PySem.PyData.keyHash w.params ⟨#[95, 119, 97, 108, 108]⟩, (.str ⟨#[95, 119, 97, 108, 108]⟩ 193), (.ref 21)⟩, ⟨PySem.PyData.keyHash w.params ⟨#[69, 118, 101, 114, 121, 110, 97, 109, 101, 69, 114, 114, 111, 114]⟩, (.str ⟨#[69, 118, 101, 114, 121, 110, 97, 109, 101, 69, 114, 114, 111, 114]⟩ 213), (.ref 31)⟩, ⟨PySem.PyData.keyHash w.params ⟨#[66, 97, 100, 80, 114, 111, 103, 114, 97, 109]⟩, (.str ⟨#[66, 97, 100, 80, 114, 111, 103, 114, 97, 109]⟩ 240), (.ref 53)⟩, ⟨PySem.PyData.keyHash w.params ⟨#[66, 97, 100, 84, 101, 120, 116]⟩, (.str ⟨#[66, 97, 100, 84, 101, 120, 116]⟩ 267), (.ref 74)⟩, ⟨PySem.PyData.keyHash w.params ⟨#[66, 97, 100, 86, 97, 108, 117, 101]⟩, (.str ⟨#[66, 97, 100, 86, 97, 108, 117, 101]⟩ 294), (.ref 95)⟩, ⟨PySem.PyData.keyHash w.params ⟨#[79, 116, 104, 101, 114, 83, 116, 111, 99, 107]⟩, (.str ⟨#[79, 116, 104, 101, 114, 83, 116, 111, 99, 107]⟩ 323), (.ref 116)⟩, ⟨PySem.PyData.keyHash w.params ⟨#[84, 111, 111, 77, 97, 110, 121]⟩, (.str ⟨#[84, 111, 111, 77, 97, 110, 121]⟩ 350), (.ref 137)⟩, ⟨PySem.PyData.keyHash w.params ⟨#[78, 111, 86, 97, 114, 105, 97, 98, 108, 101]⟩, (.str ⟨#[78, 111, 86, 97, 114, 105, 97, 98, 108, 101]⟩ 377), (.ref 158)⟩, ⟨PySem.PyData.keyHash w.params ⟨#[78, 111, 116, 69, 120, 97, 99, 116]⟩, (.str ⟨#[78, 111, 116, 69, 120, 97, 99, 116]⟩ 404), (.ref 179)⟩, ⟨PySem.PyData.keyHash w.params ⟨#[69, 109, 112, 116, 121, 83, 112, 97, 110]⟩, (.str ⟨#[69, 109, 112, 116, 121, 83, 112, 97, 110]⟩ 420), (.ref 191)⟩, ⟨PySem.PyData.keyHash w.params ⟨#[66, 97, 100, 78, 97, 109, 101]⟩, (.str ⟨#[66, 97, 100, 78, 97, 109, 101]⟩ 447), (.ref 212)⟩, ⟨PySem.PyData.keyHash w.params ⟨#[66, 97, 100, 82, 117, 108, 101]⟩, (.str ⟨#[66, 97, 100, 82, 117, 108, 101]⟩ 476), (.ref 233)⟩, ⟨PySem.PyData.keyHash w.params ⟨#[82, 101, 115, 116, 108, 101, 115, 115]⟩, (.str ⟨#[82, 101, 115, 116, 108, 101, 115, 115]⟩ 507), (.ref 254)⟩, ⟨PySem.PyData.keyHash w.params ⟨#[66, 114, 111, 107, 101, 110]⟩, (.str ⟨#[66, 114, 111, 107, 101, 110]⟩ 536), (.ref 275)⟩, ⟨PySem.PyData.keyHash w.params ⟨#[83, 101, 97, 109]⟩, (.str ⟨#[83, 101, 97, 109]⟩ 563), (.ref 296)⟩, ⟨PySem.PyData.keyHash w.params ⟨#[111, 99, 99, 117, 114, 114, 105, 110, 103]⟩, (.str ⟨#[111, 99, 99, 117, 114, 114, 105, 110, 103]⟩ 575), (.ref 305)⟩, ⟨PySem.PyData.keyHash w.params ⟨#[97, 115, 99, 101, 110, 100, 105, 110, 103]⟩, (.str ⟨#[97, 115, 99, 101, 110, 100, 105, 110, 103]⟩ 581), (.ref 310)⟩, ⟨PySem.PyData.keyHash w.params ⟨#[102, 114, 101, 101]⟩, (.str ⟨#[102, 114, 101, 101]⟩ 588), (.ref 317)⟩, ⟨PySem.PyData.keyHash w.params ⟨#[103, 114, 101, 97, 116, 101, 115, 116]⟩, (.str ⟨#[103, 114, 101, 97, 116, 101, 115, 116]⟩ 595), (.ref 324)⟩, ⟨PySem.PyData.keyHash w.params ⟨#[112, 117, 116]⟩, (.str ⟨#[112, 117, 116]⟩ 601), (.ref 329)⟩, ⟨PySem.PyData.keyHash w.params ⟨#[102, 114, 101, 115, 104]⟩, (.str ⟨#[102, 114, 101, 115, 104]⟩ 609), (.ref 336)⟩, ⟨PySem.PyData.keyHash w.params ⟨#[119, 97, 121, 115]⟩, (.str ⟨#[119, 97, 121, 115]⟩ 615), (.ref 341)⟩, ⟨PySem.PyData.keyHash w.params ⟨#[108, 111, 110, 103, 101, 114, 95, 119, 97, 121, 115]⟩, (.str ⟨#[108, 111, 110, 103, 101, 114, 95, 119, 97, 121, 115]⟩ 621), (.ref 346)⟩, ⟨PySem.PyData.keyHash w.params ⟨#[119, 105, 100, 101, 110, 101, 100]⟩, (.str ⟨#[119, 105, 100, 101, 110, 101, 100]⟩ 627), (.ref 351)⟩, ⟨PySem.PyData.keyHash w.params ⟨#[101, 110, 111, 117, 103, 104]⟩, (.str ⟨#[101, 110, 111, 117, 103, 104]⟩ 636), (.ref 358)⟩, ⟨PySem.PyData.keyHash w.params ⟨#[115, 116, 97, 110, 100, 115]⟩, (.str ⟨#[115, 116, 97, 110, 100, 115]⟩ 646), (.ref 365)⟩, ⟨PySem.PyData.keyHash w.params ⟨#[102, 105, 108, 108, 105, 110, 103, 115]⟩, (.str ⟨#[102, 105, 108, 108, 105, 110, 103, 115]⟩ 652), (.ref 370)⟩, ⟨PySem.PyData.keyHash w.params ⟨#[116, 111, 108, 100, 95, 116, 101, 114, 109, 115]⟩, (.str ⟨#[116, 111, 108, 100, 95, 116, 101, 114, 109, 115]⟩ 658), (.ref 375)⟩, ⟨PySem.PyData.keyHash w.params ⟨#[117, 110, 108, 105, 107, 101]⟩, (.str ⟨#[117, 110, 108, 105, 107, 101]⟩ 668), (.ref 382)⟩, ⟨PySem.PyData.keyHash w.params ⟨#[101, 113, 117, 97, 108, 95, 108, 105, 115, 116, 115]⟩, (.str ⟨#[101, 113, 117, 97, 108, 95, 108, 105, 115, 116, 115]⟩ 674), (.ref 387)⟩, ⟨PySem.PyData.keyHash w.params ⟨#[105, 115, 95, 102, 108, 97, 116]⟩, (.str ⟨#[105, 115, 95, 102, 108, 97, 116]⟩ 680), (.ref 392)⟩, ⟨PySem.PyData.keyHash w.params ⟨#[102, 108, 97, 116, 95, 114, 111, 119, 115]⟩, (.str ⟨#[102, 108, 97, 116, 95, 114, 111, 119, 115]⟩ 686), (.ref 397)⟩, ⟨PySem.PyData.keyHash w.params ⟨#[115, 97, 109, 101]⟩, (.str ⟨#[115, 97, 109, 101]⟩ 699), (.ref 404)⟩, ⟨PySem.PyData.keyHash w.params ⟨#[109, 101, 109, 98, 101, 114]⟩, (.str ⟨#[109, 101, 109, 98, 101, 114]⟩ 705), (.ref 409)⟩, ⟨PySem.PyData.keyHash w.params ⟨#[119, 105, 116, 104, 105, 110]⟩, (.str ⟨#[119, 105, 116, 104, 105, 110]⟩ 711), (.ref 414)⟩, ⟨PySem.PyData.keyHash w.params ⟨#[104, 97, 115, 95, 115, 101, 116]⟩, (.str ⟨#[104, 97, 115, 95, 115, 101, 116]⟩ 719), (.ref 421)⟩, ⟨PySem.PyData.keyHash w.params ⟨#[114, 111, 119, 95, 111, 118, 101, 114]⟩, (.str ⟨#[114, 111, 119, 95, 111, 118, 101, 114]⟩ 725), (.ref 426)⟩, ⟨PySem.PyData.keyHash w.params ⟨#[98, 117, 105, 108, 116]⟩, (.str ⟨#[98, 117, 105, 108, 116]⟩ 731), (.ref 431)⟩, ⟨PySem.PyData.keyHash w.params ⟨#[115, 104, 105, 102, 116, 101, 100]⟩, (.str ⟨#[115, 104, 105, 102, 116, 101, 100]⟩ 737), (.ref 436)⟩, ⟨PySem.PyData.keyHash w.params ⟨#[69, 77, 80, 84, 89]⟩, (.str ⟨#[69, 77, 80, 84, 89]⟩ 739), (.ref 439)⟩, ⟨PySem.PyData.keyHash w.params ⟨#[115, 116, 111, 99, 107]⟩, (.str ⟨#[115, 116, 111, 99, 107]⟩ 745), (.ref 444)⟩, ⟨PySem.PyData.keyHash w.params ⟨#[82, 69, 83, 69, 82, 86, 69, 68]⟩, (.str ⟨#[82, 69, 83, 69, 82, 86, 69, 68]⟩ 764), (.ref 445)⟩, ⟨PySem.PyData.keyHash w.params ⟨#[68, 69, 69, 80, 69, 83, 84, 95, 116, 114, 101, 101, 115]⟩, (.str ⟨#[68, 69, 69, 80, 69, 83, 84, 95, 116, 114, 101, 101, 115]⟩ 766), (.int 40 765)⟩, ⟨PySem.PyData.keyHash w.params ⟨#[76, 69, 86, 69, 76, 83]⟩, (.str ⟨#[76, 69, 86, 69, 76, 83]⟩ 768), (.int 10 767)⟩, ⟨PySem.PyData.keyHash w.params ⟨#[71, 82, 69, 65, 84, 69, 83, 84]⟩, (.str ⟨#[71, 82, 69, 65, 84, 69, 83, 84]⟩ 772), (.int 1000000000000000000000000000000000000000000000000000000000000 771)⟩, ⟨PySem.PyData.keyHash w.params ⟨#[83, 73, 71, 78, 83]⟩, (.str ⟨#[83, 73, 71, 78, 83]⟩ 779), (.ref 446)⟩, ⟨PySem.PyData.keyHash w.params ⟨#[80, 76, 65, 73, 78]⟩, (.str ⟨#[80, 76, 65, 73, 78]⟩ 848), (.ref 447)⟩] 56), #[]⟩, boot_o_4 w.params, boot_o_5 w.params, boot_o_6 w.params, boot_o_7 w.params, boot_o_8 w.params, boot_o_9 w.params, boot_o_10 w.params, ⟨(.type "tuple"), none, (.seq #[] 0), #[]⟩, ⟨.none, none, (.fields #[(.int 1 0), (.int 0 0), (.ref 20), (.int 5 0), (.int 0 0), (.ref 27), (.int 7 0), (.int 0 0), (.ref 41), (.int 12 0), (.int 0 0), (.ref 62), (.int 17 0), (.int 0 0), (.ref 83), (.int 22 0), (.int 0 0), (.ref 104), (.int 28 0), (.int 0 0), (.ref 125), (.int 33 0), (.int 0 0), (.ref 146), (.int 38 0), (.int 0 0), (.ref 167), (.int 43 0), (.int 0 0), (.ref 187), (.int 45 0), (.int 0 0), (.ref 200), (.int 50 0), (.int 0 0), (.ref 221), (.int 56 0), (.int 0 0), (.ref 242), (.int 63 0), (.int 0 0), (.ref 263), (.int 69 0), (.int 0 0), (.ref 284), (.int 75 0), (.int 0 0), (.ref 304), (.int 87 0), (.int 0 0), (.ref 309), (.int 89 0), (.int 0 0), (.ref 316), (.int 91 0), (.int 0 0), (.ref 323), (.int 93 0), (.int 0 0), (.ref 328), (.int 107 0), (.int 0 0), (.ref 335), (.int 109 0), (.int 0 0), (.ref 340), (.int 114 0), (.int 0 0), (.ref 345), (.int 117 0), (.int 0 0), (.ref 350), (.int 124 0), (.int 0 0), (.ref 357), (.int 130 0), (.int 0 0), (.ref 364), (.int 132 0), (.int 0 0), (.ref 369), (.int 136 0), (.int 0 0), (.ref 374), (.int 141 0), (.int 0 0), (.ref 381), (.int 155 0), (.int 0 0), (.ref 386), (.int 157 0), (.int 0 0), (.ref 391), (.int 159 0), (.int 0 0), (.ref 396), (.int 161 0), (.int 0 0), (.ref 403), (.int 175 0), (.int 0 0), (.ref 408), (.int 187 0), (.int 0 0), (.ref 413), (.int 198 0), (.int 0 0), (.ref 420), (.int 204 0), (.int 0 0), (.ref 425), (.int 208 0), (.int 0 0), (.ref 430), (.int 223 0), (.int 0 0), (.ref 435), (.int 235 0), (.int 0 0), (.ref 443)]), #[]⟩, ⟨(.type "code"), none, (.fields #[(.str ⟨#[60, 109, 111, 100, 117, 108, 101, 62]⟩ 182), (.str ⟨#[60, 109, 111, 100, 117, 108, 101, 62]⟩ 183), (.str ⟨#[47, 99, 108, 97, 105, 109, 47, 99, 117, 116, 46, 112, 121]⟩ 184), (.int 1 0), (.int 0 0), (.int 0 0), (.int 0 0), (.int 0 0), (.ref 11), (.bool false), (.int 181 0), (.ref 12), .none, .none, .none, .none, (.int 185 0), (.int 1 0), (.str ⟨#[47, 99, 108, 97, 105, 109, 47, 99, 117, 116, 46, 112, 121]⟩ 186)]), #[]⟩, ⟨(.type "frame"), none, .plain, #[(some (.ref 13)), (some (.ref 3)), (some (.ref 3)), none, (some (.str ⟨#[95, 95, 109, 97, 105, 110, 95, 95]⟩ 164)), none, (some (.ref 0))]⟩]
def O3 : List Nat := [29, 30, 31, 32, 38, 49, 50, 51, 52, 53, 197, 208, 209, 210, 211, 212, 281, 292, 293, 294, 295, 296, 437, 438, 439, 443, 444, 445]
def A3 : List Nat := []
def G3 (p : Program) (w : World) : List Obj := []
theorem grp3f (w : World) (os : OsState) (g : Nat → Obj) : grpO (HandSHeadRun.stepQ (HandSHeadRun.denQ HandSHeadRun.tabQ) PySem.W.Fast.tw10313853756172224601 (w.withFollow "special-get-raises" false)) 318 (O3 ++ A3) (boot_heap (w.withFollow "special-get-raises" false).params).life boot_drawn 780 os (F2 (w.withFollow "special-get-raises" false) ++ (List.range 432).map fun i => g (15 + i)) (piecesOf (((((((PySem.W.Fast.tw10313853756172224601).main.body).drop 16)).drop 33)).take 1) (envA PySem.W.Fast.tw10313853756172224601 13 14) (codeA PySem.W.Fast.tw10313853756172224601 13 14) ⟨242, 0, 242, 5⟩ [topFrame ⟨0, 0, 0, 0⟩]) =
    some (.next, (codeA PySem.W.Fast.tw10313853756172224601 13 14), ⟨243, 0, 243, 5⟩, 465, (boot_heap (w.withFollow "special-get-raises" false).params).life, 0, boot_drawn, 849, os, (F3 (w.withFollow "special-get-raises" false)).map some, (O3.map g ++ G3 PySem.W.Fast.tw10313853756172224601 (w.withFollow "special-get-raises" false)).map some) := by kernel_rfl
theorem grp3t (w : World) (os : OsState) (g : Nat → Obj) : grpO (HandSHeadRun.stepQ (HandSHeadRun.denQ HandSHeadRun.tabQ) PySem.W.Fast.tw10313853756172224601 (w.withFollow "special-get-raises" true)) 318 (O3 ++ A3) (boot_heap (w.withFollow "special-get-raises" true).params).life boot_drawn 780 os (F2 (w.withFollow "special-get-raises" true) ++ (List.range 432).map fun i => g (15 + i)) (piecesOf (((((((PySem.W.Fast.tw10313853756172224601).main.body).drop 16)).drop 33)).take 1) (envA PySem.W.Fast.tw10313853756172224601 13 14) (codeA PySem.W.Fast.tw10313853756172224601 13 14) ⟨242, 0, 242, 5⟩ [topFrame ⟨0, 0, 0, 0⟩]) =
    some (.next, (codeA PySem.W.Fast.tw10313853756172224601 13 14), ⟨243, 0, 243, 5⟩, 465, (boot_heap (w.withFollow "special-get-raises" true).params).life, 0, boot_drawn, 849, os, (F3 (w.withFollow "special-get-raises" true)).map some, (O3.map g ++ G3 PySem.W.Fast.tw10313853756172224601 (w.withFollow "special-get-raises" true)).map some) := by kernel_rfl
theorem grp3 (w : World) : ∀ (os : OsState) (g : Nat → Obj), grpO (HandSHeadRun.stepQ (HandSHeadRun.denQ HandSHeadRun.tabQ) PySem.W.Fast.tw10313853756172224601 w) 318 (O3 ++ A3) (boot_heap w.params).life boot_drawn 780 os (F2 w ++ (List.range 432).map fun i => g (15 + i)) (piecesOf (((((((PySem.W.Fast.tw10313853756172224601).main.body).drop 16)).drop 33)).take 1) (envA PySem.W.Fast.tw10313853756172224601 13 14) (codeA PySem.W.Fast.tw10313853756172224601 13 14) ⟨242, 0, 242, 5⟩ [topFrame ⟨0, 0, 0, 0⟩]) =
    some (.next, (codeA PySem.W.Fast.tw10313853756172224601 13 14), ⟨243, 0, 243, 5⟩, 465, (boot_heap w.params).life, 0, boot_drawn, 849, os, (F3 w).map some, (O3.map g ++ G3 PySem.W.Fast.tw10313853756172224601 w).map some) := byRow2 (P := fun w => ∀ (os : OsState) (g : Nat → Obj), grpO (HandSHeadRun.stepQ (HandSHeadRun.denQ HandSHeadRun.tabQ) PySem.W.Fast.tw10313853756172224601 w) 318 (O3 ++ A3) (boot_heap w.params).life boot_drawn 780 os (F2 w ++ (List.range 432).map fun i => g (15 + i)) (piecesOf (((((((PySem.W.Fast.tw10313853756172224601).main.body).drop 16)).drop 33)).take 1) (envA PySem.W.Fast.tw10313853756172224601 13 14) (codeA PySem.W.Fast.tw10313853756172224601 13 14) ⟨242, 0, 242, 5⟩ [topFrame ⟨0, 0, 0, 0⟩]) =
    some (.next, (codeA PySem.W.Fast.tw10313853756172224601 13 14), ⟨243, 0, 243, 5⟩, 465, (boot_heap w.params).life, 0, boot_drawn, 849, os, (F3 w).map some, (O3.map g ++ G3 PySem.W.Fast.tw10313853756172224601 w).map some)) "special-get-raises" (fun w => grp3f w) (fun w => grp3t w) w
def F4 (w : World) : List Obj := [boot_o_0 w.params, boot_o_1 w.params, ⟨.none, none, (.dict #[] 0), #[]⟩, ⟨(.type "dict"), none, (.dict #[⟨PySem.PyData.keyHash w.params ⟨#[95, 95, 110, 97, 109, 101, 95, 95]⟩, (.str ⟨#[95, 95, 110, 97, 109, 101, 95, 95]⟩ 165), (.str ⟨#[101, 118, 101, 114, 121, 110, 97, 109, 101, 46, 114, 101, 97, 100, 105, 110, 103]⟩ 964)⟩, ⟨PySem.PyData.keyHash w.params ⟨#[95, 95, 100, 111, 99, 95, 95]⟩, (.str ⟨#[95, 95, 100, 111, 99, 95, 95]⟩ 166), .none⟩, ⟨PySem.PyData.keyHash w.params ⟨#[95, 95, 112, 97, 99, 107, 97, 103, 101, 95, 95]⟩, (.str ⟨#[95, 95, 112, 97, 99, 107, 97, 103, 101, 95, 95]⟩ 167), .none⟩, ⟨PySem.PyData.keyHash w.params ⟨#[95, 95, 108, 111, 97, 100, 101, 114, 95, 95]⟩, (.str ⟨#[95, 95, 108, 111, 97, 100, 101, 114, 95, 95]⟩ 168), (.builtin "__main__.__loader__#opaque")⟩, ⟨PySem.PyData.keyHash w.params ⟨#[95, 95, 115, 112, 101, 99, 95, 95]⟩, (.str ⟨#[95, 95, 115, 112, 101, 99, 95, 95]⟩ 169), .none⟩, ⟨PySem.PyData.keyHash w.params ⟨#[95, 95, 97, 110, 110, 111, 116, 97, 116, 105, 111, 110, 115, 95, 95]⟩, (.str ⟨#[95, 95, 97, 110, 110, 111, 116, 97, 116, 105, 111, 110, 115, 95, 95]⟩ 170), (.ref 6)⟩, ⟨PySem.PyData.keyHash w.params ⟨#[95, 95, 98, 117, 105, 108, 116, 105, 110, 115, 95, 95]⟩, (.str ⟨#[95, 95, 98, 117, 105, 108, 116, 105, 110, 115, 95, 95]⟩ 171), (.ref 4)⟩, ⟨PySem.PyData.keyHash w.params ⟨#[95, 95, 102, 105, 108, 101, 95, 95]⟩, (.str ⟨#[95, 95, 102, 105, 108, 101, 95, 95]⟩ 173), (.str ⟨#[47, 99, 108, 97, 105, 109, 47, 99, 117, 116, 46, 112, 121]⟩ 172)⟩, ⟨PySem.PyData.keyHash w.params ⟨#[95, 95, 99, 97, 99, 104, 101, 100, 95, 95]⟩, (.str ⟨#[95, 95, 99, 97, 99, 104, 101, 100, 95, 95]⟩ 174), .none⟩, ⟨PySem.PyData.keyHash w.params ⟨#[95, 119, 97, 108, 108]⟩, (.str ⟨#[95, 119, 97, 108, 108]⟩ 193), (.ref 21)⟩, ⟨PySem.PyData.keyHash w.params ⟨#[69, 118, 101, 114, 121, 110, 97, 109, 101, 69, 114, 114, 111, 114]⟩, (.str ⟨#[69, 118, 101, 114, 121, 110, 97, 109, 101, 69, 114, 114, 111, 114]⟩ 213), (.ref 31)⟩, ⟨PySem.PyData.keyHash w.params ⟨#[66, 97, 100, 80, 114, 111, 103, 114, 97, 109]⟩, (.str ⟨#[66, 97, 100, 80, 114, 111, 103, 114, 97, 109]⟩ 240), (.ref 53)⟩, ⟨PySem.PyData.keyHash w.params ⟨#[66, 97, 100, 84, 101, 120, 116]⟩, (.str ⟨#[66, 97, 100, 84, 101, 120, 116]⟩ 267), (.ref 74)⟩, ⟨PySem.PyData.keyHash w.params ⟨#[66, 97, 100, 86, 97, 108, 117, 101]⟩, (.str ⟨#[66, 97, 100, 86, 97, 108, 117, 101]⟩ 294), (.ref 95)⟩, ⟨PySem.PyData.keyHash w.params ⟨#[79, 116, 104, 101, 114, 83, 116, 111, 99, 107]⟩, (.str ⟨#[79, 116, 104, 101, 114, 83, 116, 111, 99, 107]⟩ 323), (.ref 116)⟩, ⟨PySem.PyData.keyHash w.params ⟨#[84, 111, 111, 77, 97, 110, 121]⟩, (.str ⟨#[84, 111, 111, 77, 97, 110, 121]⟩ 350), (.ref 137)⟩, ⟨PySem.PyData.keyHash w.params ⟨#[78, 111, 86, 97, 114, 105, 97, 98, 108, 101]⟩, (.str ⟨#[78, 111, 86, 97, 114, 105, 97, 98, 108, 101]⟩ 377), (.ref 158)⟩, ⟨PySem.PyData.keyHash w.params ⟨#[78, 111, 116, 69, 120, 97, 99, 116]⟩, (.str ⟨#[78, 111, 116, 69, 120, 97, 99, 116]⟩ 404), (.ref 179)⟩, ⟨PySem.PyData.keyHash w.params ⟨#[69, 109, 112, 116, 121, 83, 112, 97, 110]⟩, (.str ⟨#[69, 109, 112, 116, 121, 83, 112, 97, 110]⟩ 420), (.ref 191)⟩, ⟨PySem.PyData.keyHash w.params ⟨#[66, 97, 100, 78, 97, 109, 101]⟩, (.str ⟨#[66, 97, 100, 78, 97, 109, 101]⟩ 447), (.ref 212)⟩, ⟨PySem.PyData.keyHash w.params ⟨#[66, 97, 100, 82, 117, 108, 101]⟩, (.str ⟨#[66, 97, 100, 82, 117, 108, 101]⟩ 476), (.ref 233)⟩, ⟨PySem.PyData.keyHash w.params ⟨#[82, 101, 115, 116, 108, 101, 115, 115]⟩, (.str ⟨#[82, 101, 115, 116, 108, 101, 115, 115]⟩ 507), (.ref 254)⟩, ⟨PySem.PyData.keyHash w.params ⟨#[66, 114, 111, 107, 101, 110]⟩, (.str ⟨#[66, 114, 111, 107, 101, 110]⟩ 536), (.ref 275)⟩, ⟨PySem.PyData.keyHash w.params ⟨#[83, 101, 97, 109]⟩, (.str ⟨#[83, 101, 97, 109]⟩ 563), (.ref 296)⟩, ⟨PySem.PyData.keyHash w.params ⟨#[111, 99, 99, 117, 114, 114, 105, 110, 103]⟩, (.str ⟨#[111, 99, 99, 117, 114, 114, 105, 110, 103]⟩ 575), (.ref 305)⟩, ⟨PySem.PyData.keyHash w.params ⟨#[97, 115, 99, 101, 110, 100, 105, 110, 103]⟩, (.str ⟨#[97, 115, 99, 101, 110, 100, 105, 110, 103]⟩ 581), (.ref 310)⟩, ⟨PySem.PyData.keyHash w.params ⟨#[102, 114, 101, 101]⟩, (.str ⟨#[102, 114, 101, 101]⟩ 588), (.ref 317)⟩, ⟨PySem.PyData.keyHash w.params ⟨#[103, 114, 101, 97, 116, 101, 115, 116]⟩, (.str ⟨#[103, 114, 101, 97, 116, 101, 115, 116]⟩ 595), (.ref 324)⟩, ⟨PySem.PyData.keyHash w.params ⟨#[112, 117, 116]⟩, (.str ⟨#[112, 117, 116]⟩ 601), (.ref 329)⟩, ⟨PySem.PyData.keyHash w.params ⟨#[102, 114, 101, 115, 104]⟩, (.str ⟨#[102, 114, 101, 115, 104]⟩ 609), (.ref 336)⟩, ⟨PySem.PyData.keyHash w.params ⟨#[119, 97, 121, 115]⟩, (.str ⟨#[119, 97, 121, 115]⟩ 615), (.ref 341)⟩, ⟨PySem.PyData.keyHash w.params ⟨#[108, 111, 110, 103, 101, 114, 95, 119, 97, 121, 115]⟩, (.str ⟨#[108, 111, 110, 103, 101, 114, 95, 119, 97, 121, 115]⟩ 621), (.ref 346)⟩, ⟨PySem.PyData.keyHash w.params ⟨#[119, 105, 100, 101, 110, 101, 100]⟩, (.str ⟨#[119, 105, 100, 101, 110, 101, 100]⟩ 627), (.ref 351)⟩, ⟨PySem.PyData.keyHash w.params ⟨#[101, 110, 111, 117, 103, 104]⟩, (.str ⟨#[101, 110, 111, 117, 103, 104]⟩ 636), (.ref 358)⟩, ⟨PySem.PyData.keyHash w.params ⟨#[115, 116, 97, 110, 100, 115]⟩, (.str ⟨#[115, 116, 97, 110, 100, 115]⟩ 646), (.ref 365)⟩, ⟨PySem.PyData.keyHash w.params ⟨#[102, 105, 108, 108, 105, 110, 103, 115]⟩, (.str ⟨#[102, 105, 108, 108, 105, 110, 103, 115]⟩ 652), (.ref 370)⟩, ⟨PySem.PyData.keyHash w.params ⟨#[116, 111, 108, 100, 95, 116, 101, 114, 109, 115]⟩, (.str ⟨#[116, 111, 108, 100, 95, 116, 101, 114, 109, 115]⟩ 658), (.ref 375)⟩, ⟨PySem.PyData.keyHash w.params ⟨#[117, 110, 108, 105, 107, 101]⟩, (.str ⟨#[117, 110, 108, 105, 107, 101]⟩ 668), (.ref 382)⟩, ⟨PySem.PyData.keyHash w.params ⟨#[101, 113, 117, 97, 108, 95, 108, 105, 115, 116, 115]⟩, (.str ⟨#[101, 113, 117, 97, 108, 95, 108, 105, 115, 116, 115]⟩ 674), (.ref 387)⟩, ⟨PySem.PyData.keyHash w.params ⟨#[105, 115, 95, 102, 108, 97, 116]⟩, (.str ⟨#[105, 115, 95, 102, 108, 97, 116]⟩ 680), (.ref 392)⟩, ⟨PySem.PyData.keyHash w.params ⟨#[102, 108, 97, 116, 95, 114, 111, 119, 115]⟩, (.str ⟨#[102, 108, 97, 116, 95, 114, 111, 119, 115]⟩ 686), (.ref 397)⟩, ⟨PySem.PyData.keyHash w.params ⟨#[115, 97, 109, 101]⟩, (.str ⟨#[115, 97, 109, 101]⟩ 699), (.ref 404)⟩, ⟨PySem.PyData.keyHash w.params ⟨#[109, 101, 109, 98, 101, 114]⟩, (.str ⟨#[109, 101, 109, 98, 101, 114]⟩ 705), (.ref 409)⟩, ⟨PySem.PyData.keyHash w.params ⟨#[119, 105, 116, 104, 105, 110]⟩, (.str ⟨#[119, 105, 116, 104, 105, 110]⟩ 711), (.ref 414)⟩, ⟨PySem.PyData.keyHash w.params ⟨#[104, 97, 115, 95, 115, 101, 116]⟩, (.str ⟨#[104, 97, 115, 95, 115, 101, 116]⟩ 719), (.ref 421)⟩, ⟨PySem.PyData.keyHash w.params ⟨#[114, 111, 119, 95, 111, 118, 101, 114]⟩, (.str ⟨#[114, 111, 119, 95, 111, 118, 101, 114]⟩ 725), (.ref 426)⟩, ⟨PySem.PyData.keyHash w.params ⟨#[98, 117, 105, 108, 116]⟩, (.str ⟨#[98, 117, 105, 108, 116]⟩ 731), (.ref 431)⟩, ⟨PySem.PyData.keyHash w.params ⟨#[115, 104, 105, 102, 116, 101, 100]⟩, (.str ⟨#[115, 104, 105, 102, 116, 101, 100]⟩ 737), (.ref 436)⟩, ⟨PySem.PyData.keyHash w.params ⟨#[69, 77, 80, 84, 89]⟩, (.str ⟨#[69, 77, 80, 84, 89]⟩ 739), (.ref 439)⟩, ⟨PySem.PyData.keyHash w.params ⟨#[115, 116, 111, 99, 107]⟩, (.str ⟨#[115, 116, 111, 99, 107]⟩ 745), (.ref 444)⟩, ⟨PySem.PyData.keyHash w.params ⟨#[82, 69, 83, 69, 82, 86, 69, 68]⟩, (.str ⟨#[82, 69, 83, 69, 82, 86, 69, 68]⟩ 764), (.ref 445)⟩, ⟨PySem.PyData.keyHash w.params ⟨#[68, 69, 69, 80, 69, 83, 84, 95, 116, 114, 101, 101, 115]⟩, (.str ⟨#[68, 69, 69, 80, 69, 83, 84, 95, 116, 114, 101, 101, 115]⟩ 766), (.int 40 765)⟩, ⟨PySem.PyData.keyHash w.params ⟨#[76, 69, 86, 69, 76, 83]⟩, (.str ⟨#[76, 69, 86, 69, 76, 83]⟩ 768), (.int 10 767)⟩, ⟨PySem.PyData.keyHash w.params ⟨#[71, 82, 69, 65, 84, 69, 83, 84]⟩, (.str ⟨#[71, 82, 69, 65, 84, 69, 83, 84]⟩ 772), (.int 1000000000000000000000000000000000000000000000000000000000000 771)⟩, ⟨PySem.PyData.keyHash w.params ⟨#[83, 73, 71, 78, 83]⟩, (.str ⟨#[83, 73, 71, 78, 83]⟩ 779), (.ref 446)⟩, ⟨PySem.PyData.keyHash w.params ⟨#[80, 76, 65, 73, 78]⟩, (.str ⟨#[80, 76, 65, 73, 78]⟩ 848), (.ref 447)⟩, ⟨PySem.PyData.keyHash w.params ⟨#[105, 115, 95, 119, 111, 114, 100]⟩, (.str ⟨#[105, 115, 95, 119, 111, 114, 100]⟩ 854), (.ref 469)⟩, ⟨PySem.PyData.keyHash w.params ⟨#[105, 115, 95, 110, 97, 109, 101]⟩, (.str ⟨#[105, 115, 95, 110, 97, 109, 101]⟩ 861), (.ref 476)⟩, ⟨PySem.PyData.keyHash w.params ⟨#[112, 97, 116, 116, 101, 114, 110, 95, 118, 97, 114, 105, 97, 98, 108, 101, 115]⟩, (.str ⟨#[112, 97, 116, 116, 101, 114, 110, 95, 118, 97, 114, 105, 97, 98, 108, 101, 115]⟩ 868), (.ref 483)⟩, ⟨PySem.PyData.keyHash w.params ⟨#[103, 111, 111, 100, 95, 112, 97, 116, 116, 101, 114, 110]⟩, (.str ⟨#[103, 111, 111, 100, 95, 112, 97, 116, 116, 101, 114, 110]⟩ 874), (.ref 488)⟩, ⟨PySem.PyData.keyHash w.params ⟨#[103, 111, 111, 100]⟩, (.str ⟨#[103, 111, 111, 100]⟩ 881), (.ref 494)⟩, ⟨PySem.PyData.keyHash w.params ⟨#[103, 111, 111, 100, 95, 101, 120, 112, 114, 101, 115, 115, 105, 111, 110]⟩, (.str ⟨#[103, 111, 111, 100, 95, 101, 120, 112, 114, 101, 115, 115, 105, 111, 110]⟩ 887), (.ref 499)⟩, ⟨PySem.PyData.keyHash w.params ⟨#[103, 111, 111, 100, 95, 103, 97, 116, 104, 101, 114]⟩, (.str ⟨#[103, 111, 111, 100, 95, 103, 97, 116, 104, 101, 114]⟩ 898), (.ref 506)⟩, ⟨PySem.PyData.keyHash w.params ⟨#[103, 111, 111, 100, 95, 116, 101, 115, 116]⟩, (.str ⟨#[103, 111, 111, 100, 95, 116, 101, 115, 116]⟩ 908), (.ref 513)⟩, ⟨PySem.PyData.keyHash w.params ⟨#[103, 111, 111, 100, 95, 104, 101, 97, 100]⟩, (.str ⟨#[103, 111, 111, 100, 95, 104, 101, 97, 100]⟩ 918), (.ref 520)⟩, ⟨PySem.PyData.keyHash w.params ⟨#[119, 114, 111, 110, 103, 95, 112, 108, 97, 99, 101]⟩, (.str ⟨#[119, 114, 111, 110, 103, 95, 112, 108, 97, 99, 101]⟩ 935), (.ref 529)⟩, ⟨PySem.PyData.keyHash w.params ⟨#[102, 114, 101, 101, 95, 118, 97, 114, 105, 97, 98, 108, 101, 115]⟩, (.str ⟨#[102, 114, 101, 101, 95, 118, 97, 114, 105, 97, 98, 108, 101, 115]⟩ 947), (.ref 538)⟩, ⟨PySem.PyData.keyHash w.params ⟨#[106, 111, 105, 110, 101, 100]⟩, (.str ⟨#[106, 111, 105, 110, 101, 100]⟩ 953), (.ref 543)⟩, ⟨PySem.PyData.keyHash w.params ⟨#[115, 116, 97, 116, 101, 95, 118, 97, 114, 105, 97, 98, 108, 101, 115]⟩, (.str ⟨#[115, 116, 97, 116, 101, 95, 118, 97, 114, 105, 97, 98, 108, 101, 115]⟩ 963), (.ref 550)⟩] 69), #[]⟩, boot_o_4 w.params, boot_o_5 w.params, boot_o_6 w.params, boot_o_7 w.params, boot_o_8 w.params, boot_o_9 w.params, boot_o_10 w.params, ⟨(.type "tuple"), none, (.seq #[] 0), #[]⟩, ⟨.none, none, (.fields #[(.int 1 0), (.int 0 0), (.ref 20), (.int 5 0), (.int 0 0), (.ref 27), (.int 7 0), (.int 0 0), (.ref 41), (.int 12 0), (.int 0 0), (.ref 62), (.int 17 0), (.int 0 0), (.ref 83), (.int 22 0), (.int 0 0), (.ref 104), (.int 28 0), (.int 0 0), (.ref 125), (.int 33 0), (.int 0 0), (.ref 146), (.int 38 0), (.int 0 0), (.ref 167), (.int 43 0), (.int 0 0), (.ref 187), (.int 45 0), (.int 0 0), (.ref 200), (.int 50 0), (.int 0 0), (.ref 221), (.int 56 0), (.int 0 0), (.ref 242), (.int 63 0), (.int 0 0), (.ref 263), (.int 69 0), (.int 0 0), (.ref 284), (.int 75 0), (.int 0 0), (.ref 304), (.int 87 0), (.int 0 0), (.ref 309), (.int 89 0), (.int 0 0), (.ref 316), (.int 91 0), (.int 0 0), (.ref 323), (.int 93 0), (.int 0 0), (.ref 328), (.int 107 0), (.int 0 0), (.ref 335), (.int 109 0), (.int 0 0), (.ref 340), (.int 114 0), (.int 0 0), (.ref 345), (.int 117 0), (.int 0 0), (.ref 350), (.int 124 0), (.int 0 0), (.ref 357), (.int 130 0), (.int 0 0), (.ref 364), (.int 132 0), (.int 0 0), (.ref 369), (.int 136 0), (.int 0 0), (.ref 374), (.int 141 0), (.int 0 0), (.ref 381), (.int 155 0), (.int 0 0), (.ref 386), (.int 157 0), (.int 0 0), (.ref 391), (.int 159 0), (.int 0 0), (.ref 396), (.int 161 0), (.int 0 0), (.ref 403), (.int 175 0), (.int 0 0), (.ref 408), (.int 187 0), (.int 0 0), (.ref 413), (.int 198 0), (.int 0 0), (.ref 420), (.int 204 0), (.int 0 0), (.ref 425), (.int 208 0), (.int 0 0), (.ref 430), (.int 223 0), (.int 0 0), (.ref 435), (.int 235 0), (.int 0 0), (.ref 443), (.int 244 0), (.int 0 0), (.ref 468), (.int 248 0), (.int 0 0), (.ref 475), (.int 250 0), (.int 0 0), (.ref 482), (.int 254 0), (.int 0 0), (.ref 487), (.int 263 0), (.int 0 0), (.ref 493), (.int 279 0), (.int 0 0), (.ref 498), (.int 292 0), (.int 0 0), (.ref 505), (.int 302 0), (.int 0 0), (.ref 512), (.int 312 0), (.int 0 0), (.ref 519), (.int 326 0), (.int 0 0), (.ref 528), (.int 337 0), (.int 0 0), (.ref 537), (.int 353 0), (.int 0 0), (.ref 542), (.int 355 0), (.int 0 0), (.ref 549)]), #[]⟩, ⟨(.type "code"), none, (.fields #[(.str ⟨#[60, 109, 111, 100, 117, 108, 101, 62]⟩ 182), (.str ⟨#[60, 109, 111, 100, 117, 108, 101, 62]⟩ 183), (.str ⟨#[47, 99, 108, 97, 105, 109, 47, 99, 117, 116, 46, 112, 121]⟩ 184), (.int 1 0), (.int 0 0), (.int 0 0), (.int 0 0), (.int 0 0), (.ref 11), (.bool false), (.int 181 0), (.ref 12), .none, .none, .none, .none, (.int 185 0), (.int 1 0), (.str ⟨#[47, 99, 108, 97, 105, 109, 47, 99, 117, 116, 46, 112, 121]⟩ 186)]), #[]⟩, ⟨(.type "frame"), none, .plain, #[(some (.ref 13)), (some (.ref 3)), (some (.ref 3)), none, (some (.str ⟨#[95, 95, 109, 97, 105, 110, 95, 95]⟩ 164)), none, (some (.ref 0))]⟩]
def O4 : List Nat := [29, 30, 31, 32, 38, 49, 50, 51, 52, 53, 197, 208, 209, 210, 211, 212, 281, 292, 293, 294, 295, 296, 437, 438, 439, 443, 444, 445]
def A4 : List Nat := [468, 469, 475, 476, 521, 522, 528, 529, 542, 543, 549, 550]
def G4 (p : Program) (w : World) : List Obj := [⟨(.type "code"), none, (.fields #[(.str ⟨#[105, 115, 95, 119, 111, 114, 100]⟩ 849), (.str ⟨#[105, 115, 95, 119, 111, 114, 100]⟩ 850), (.str ⟨#[47, 99, 108, 97, 105, 109, 47, 99, 117, 116, 46, 112, 121]⟩ 851), (.int 244 0), (.int 1 0), (.int 0 0), (.int 0 0), (.int 3 0), (.ref 465), (.bool true), (.int 181 0), (.ref 466), .none, .none, .none, (.ref 467), (.int 852 0), (.int 244 0), (.str ⟨#[47, 99, 108, 97, 105, 109, 47, 99, 117, 116, 46, 112, 121]⟩ 853)]), #[]⟩,
  ⟨(.type "function"), none, (.func (fnX ⟨#[105, 115, 95, 119, 111, 114, 100]⟩ ⟨#[105, 115, 95, 119, 111, 114, 100]⟩ (stA p 50) [] .none .none .none (.str ⟨#[101, 118, 101, 114, 121, 110, 97, 109, 101, 46, 116, 114, 101, 101, 115]⟩ 746) none (.ref 468) .none)), #[]⟩,
  ⟨(.type "code"), none, (.fields #[(.str ⟨#[105, 115, 95, 110, 97, 109, 101]⟩ 855), (.str ⟨#[105, 115, 95, 110, 97, 109, 101]⟩ 856), (.str ⟨#[47, 99, 108, 97, 105, 109, 47, 99, 117, 116, 46, 112, 121]⟩ 857), (.int 248 0), (.int 1 0), (.int 0 0), (.int 0 0), (.int 3 0), (.ref 470), (.bool true), (.int 181 0), (.ref 471), .none, (.ref 472), (.ref 473), (.ref 474), (.int 859 0), (.int 248 0), (.str ⟨#[47, 99, 108, 97, 105, 109, 47, 99, 117, 116, 46, 112, 121]⟩ 860)]), #[]⟩,
  ⟨(.type "function"), none, (.func (fnX ⟨#[105, 115, 95, 110, 97, 109, 101]⟩ ⟨#[105, 115, 95, 110, 97, 109, 101]⟩ (stA p 51) [] .none .none .none (.str ⟨#[101, 118, 101, 114, 121, 110, 97, 109, 101, 46, 116, 114, 101, 101, 115]⟩ 746) none (.ref 475) .none)), #[]⟩,
  ⟨(.type "tuple"), none, (.seq #[] 0), #[]⟩,
  ⟨(.type "tuple"), none, (.seq #[(.ref 521), (.int 1 919)] 0), #[]⟩,
  ⟨(.type "code"), none, (.fields #[(.str ⟨#[119, 114, 111, 110, 103, 95, 112, 108, 97, 99, 101]⟩ 920), (.str ⟨#[119, 114, 111, 110, 103, 95, 112, 108, 97, 99, 101]⟩ 921), (.str ⟨#[47, 99, 108, 97, 105, 109, 47, 99, 117, 116, 46, 112, 121]⟩ 922), (.int 326 0), (.int 4 0), (.int 0 0), (.int 0 0), (.int 3 0), (.ref 523), (.bool true), (.int 181 0), (.ref 524), .none, (.ref 525), (.ref 526), (.ref 527), (.int 933 0), (.int 326 0), (.str ⟨#[47, 99, 108, 97, 105, 109, 47, 99, 117, 116, 46, 112, 121]⟩ 934)]), #[]⟩,
  ⟨(.type "function"), none, (.func (fnX ⟨#[119, 114, 111, 110, 103, 95, 112, 108, 97, 99, 101]⟩ ⟨#[119, 114, 111, 110, 103, 95, 112, 108, 97, 99, 101]⟩ (stA p 59) [] (.ref 522) .none .none (.str ⟨#[101, 118, 101, 114, 121, 110, 97, 109, 101, 46, 116, 114, 101, 101, 115]⟩ 746) none (.ref 528) .none)), #[]⟩,
  ⟨(.type "code"), none, (.fields #[(.str ⟨#[106, 111, 105, 110, 101, 100]⟩ 948), (.str ⟨#[106, 111, 105, 110, 101, 100]⟩ 949), (.str ⟨#[47, 99, 108, 97, 105, 109, 47, 99, 117, 116, 46, 112, 121]⟩ 950), (.int 353 0), (.int 2 0), (.int 0 0), (.int 0 0), (.int 3 0), (.ref 539), (.bool true), (.int 181 0), (.ref 540), .none, .none, .none, (.ref 541), (.int 951 0), (.int 353 0), (.str ⟨#[47, 99, 108, 97, 105, 109, 47, 99, 117, 116, 46, 112, 121]⟩ 952)]), #[]⟩,
  ⟨(.type "function"), none, (.func (fnX ⟨#[106, 111, 105, 110, 101, 100]⟩ ⟨#[106, 111, 105, 110, 101, 100]⟩ (stA p 61) [] .none .none .none (.str ⟨#[101, 118, 101, 114, 121, 110, 97, 109, 101, 46, 116, 114, 101, 101, 115]⟩ 746) none (.ref 542) .none)), #[]⟩,
  ⟨(.type "code"), none, (.fields #[(.str ⟨#[115, 116, 97, 116, 101, 95, 118, 97, 114, 105, 97, 98, 108, 101, 115]⟩ 954), (.str ⟨#[115, 116, 97, 116, 101, 95, 118, 97, 114, 105, 97, 98, 108, 101, 115]⟩ 955), (.str ⟨#[47, 99, 108, 97, 105, 109, 47, 99, 117, 116, 46, 112, 121]⟩ 956), (.int 355 0), (.int 1 0), (.int 0 0), (.int 0 0), (.int 3 0), (.ref 544), (.bool true), (.int 181 0), (.ref 545), .none, (.ref 546), (.ref 547), (.ref 548), (.int 961 0), (.int 355 0), (.str ⟨#[47, 99, 108, 97, 105, 109, 47, 99, 117, 116, 46, 112, 121]⟩ 962)]), #[]⟩,
  ⟨(.type "function"), none, (.func (fnX ⟨#[115, 116, 97, 116, 101, 95, 118, 97, 114, 105, 97, 98, 108, 101, 115]⟩ ⟨#[115, 116, 97, 116, 101, 95, 118, 97, 114, 105, 97, 98, 108, 101, 115]⟩ (stA p 62) [] .none .none .none (.str ⟨#[101, 118, 101, 114, 121, 110, 97, 109, 101, 46, 116, 114, 101, 101, 115]⟩ 746) none (.ref 549) .none)), #[]⟩]
theorem grp4 (w : World) (os : OsState) (g : Nat → Obj) : grpO (HandSHeadRun.stepQ (HandSHeadRun.denQ HandSHeadRun.tabQ) PySem.W.Fast.tw10313853756172224601 w) 408 (O4 ++ A4) (boot_heap w.params).life boot_drawn 849 os (F3 w ++ (List.range 450).map fun i => g (15 + i)) (piecesOf (((((((((PySem.W.Fast.tw10313853756172224601).main.body).drop 16)).drop 33)).drop 1)).take 14) (envA PySem.W.Fast.tw10313853756172224601 13 14) (codeA PySem.W.Fast.tw10313853756172224601 13 14) ⟨243, 0, 243, 5⟩ [topFrame ⟨0, 0, 0, 0⟩]) =
    some (.next, (codeA PySem.W.Fast.tw10313853756172224601 13 14), ⟨366, 0, 366, 8⟩, 551, (boot_heap w.params).life, 0, boot_drawn, 966, os, (F4 w).map some, (O4.map g ++ G4 PySem.W.Fast.tw10313853756172224601 w).map some) := by kernel_rfl
def F5 (w : World) : List Obj := [boot_o_0 w.params, boot_o_1 w.params, ⟨.none, none, (.dict #[] 0), #[]⟩, ⟨(.type "dict"), none, (.dict #[⟨PySem.PyData.keyHash w.params ⟨#[95, 95, 110, 97, 109, 101, 95, 95]⟩, (.str ⟨#[95, 95, 110, 97, 109, 101, 95, 95]⟩ 165), (.str ⟨#[101, 118, 101, 114, 121, 110, 97, 109, 101, 46, 114, 101, 97, 100, 105, 110, 103]⟩ 964)⟩, ⟨PySem.PyData.keyHash w.params ⟨#[95, 95, 100, 111, 99, 95, 95]⟩, (.str ⟨#[95, 95, 100, 111, 99, 95, 95]⟩ 166), .none⟩, ⟨PySem.PyData.keyHash w.params ⟨#[95, 95, 112, 97, 99, 107, 97, 103, 101, 95, 95]⟩, (.str ⟨#[95, 95, 112, 97, 99, 107, 97, 103, 101, 95, 95]⟩ 167), .none⟩, ⟨PySem.PyData.keyHash w.params ⟨#[95, 95, 108, 111, 97, 100, 101, 114, 95, 95]⟩, (.str ⟨#[95, 95, 108, 111, 97, 100, 101, 114, 95, 95]⟩ 168), (.builtin "__main__.__loader__#opaque")⟩, ⟨PySem.PyData.keyHash w.params ⟨#[95, 95, 115, 112, 101, 99, 95, 95]⟩, (.str ⟨#[95, 95, 115, 112, 101, 99, 95, 95]⟩ 169), .none⟩, ⟨PySem.PyData.keyHash w.params ⟨#[95, 95, 97, 110, 110, 111, 116, 97, 116, 105, 111, 110, 115, 95, 95]⟩, (.str ⟨#[95, 95, 97, 110, 110, 111, 116, 97, 116, 105, 111, 110, 115, 95, 95]⟩ 170), (.ref 6)⟩, ⟨PySem.PyData.keyHash w.params ⟨#[95, 95, 98, 117, 105, 108, 116, 105, 110, 115, 95, 95]⟩, (.str ⟨#[95, 95, 98, 117, 105, 108, 116, 105, 110, 115, 95, 95]⟩ 171), (.ref 4)⟩, ⟨PySem.PyData.keyHash w.params ⟨#[95, 95, 102, 105, 108, 101, 95, 95]⟩, (.str ⟨#[95, 95, 102, 105, 108, 101, 95, 95]⟩ 173), (.str ⟨#[47, 99, 108, 97, 105, 109, 47, 99, 117, 116, 46, 112, 121]⟩ 172)⟩, ⟨PySem.PyData.keyHash w.params ⟨#[95, 95, 99, 97, 99, 104, 101, 100, 95, 95]⟩, (.str ⟨#[95, 95, 99, 97, 99, 104, 101, 100, 95, 95]⟩ 174), .none⟩, ⟨PySem.PyData.keyHash w.params ⟨#[95, 119, 97, 108, 108]⟩, (.str ⟨#[95, 119, 97, 108, 108]⟩ 193), (.ref 21)⟩, ⟨PySem.PyData.keyHash w.params ⟨#[69, 118, 101, 114, 121, 110, 97, 109, 101, 69, 114, 114, 111, 114]⟩, (.str ⟨#[69, 118, 101, 114, 121, 110, 97, 109, 101, 69, 114, 114, 111, 114]⟩ 213), (.ref 31)⟩, ⟨PySem.PyData.keyHash w.params ⟨#[66, 97, 100, 80, 114, 111, 103, 114, 97, 109]⟩, (.str ⟨#[66, 97, 100, 80, 114, 111, 103, 114, 97, 109]⟩ 240), (.ref 53)⟩, ⟨PySem.PyData.keyHash w.params ⟨#[66, 97, 100, 84, 101, 120, 116]⟩, (.str ⟨#[66, 97, 100, 84, 101, 120, 116]⟩ 267), (.ref 74)⟩, ⟨PySem.PyData.keyHash w.params ⟨#[66, 97, 100, 86, 97, 108, 117, 101]⟩, (.str ⟨#[66, 97, 100, 86, 97, 108, 117, 101]⟩ 294), (.ref 95)⟩, ⟨PySem.PyData.keyHash w.params ⟨#[79, 116, 104, 101, 114, 83, 116, 111, 99, 107]⟩, (.str ⟨#[79, 116, 104, 101, 114, 83, 116, 111, 99, 107]⟩ 323), (.ref 116)⟩, ⟨PySem.PyData.keyHash w.params ⟨#[84, 111, 111, 77, 97, 110, 121]⟩, (.str ⟨#[84, 111, 111, 77, 97, 110, 121]⟩ 350), (.ref 137)⟩, ⟨PySem.PyData.keyHash w.params ⟨#[78, 111, 86, 97, 114, 105, 97, 98, 108, 101]⟩, (.str ⟨#[78, 111, 86, 97, 114, 105, 97, 98, 108, 101]⟩ 377), (.ref 158)⟩, ⟨PySem.PyData.keyHash w.params ⟨#[78, 111, 116, 69, 120, 97, 99, 116]⟩, (.str ⟨#[78, 111, 116, 69, 120, 97, 99, 116]⟩ 404), (.ref 179)⟩, ⟨PySem.PyData.keyHash w.params ⟨#[69, 109, 112, 116, 121, 83, 112, 97, 110]⟩, (.str ⟨#[69, 109, 112, 116, 121, 83, 112, 97, 110]⟩ 420), (.ref 191)⟩, ⟨PySem.PyData.keyHash w.params ⟨#[66, 97, 100, 78, 97, 109, 101]⟩, (.str ⟨#[66, 97, 100, 78, 97, 109, 101]⟩ 447), (.ref 212)⟩, ⟨PySem.PyData.keyHash w.params ⟨#[66, 97, 100, 82, 117, 108, 101]⟩, (.str ⟨#[66, 97, 100, 82, 117, 108, 101]⟩ 476), (.ref 233)⟩, ⟨PySem.PyData.keyHash w.params ⟨#[82, 101, 115, 116, 108, 101, 115, 115]⟩, (.str ⟨#[82, 101, 115, 116, 108, 101, 115, 115]⟩ 507), (.ref 254)⟩, ⟨PySem.PyData.keyHash w.params ⟨#[66, 114, 111, 107, 101, 110]⟩, (.str ⟨#[66, 114, 111, 107, 101, 110]⟩ 536), (.ref 275)⟩, ⟨PySem.PyData.keyHash w.params ⟨#[83, 101, 97, 109]⟩, (.str ⟨#[83, 101, 97, 109]⟩ 563), (.ref 296)⟩, ⟨PySem.PyData.keyHash w.params ⟨#[111, 99, 99, 117, 114, 114, 105, 110, 103]⟩, (.str ⟨#[111, 99, 99, 117, 114, 114, 105, 110, 103]⟩ 575), (.ref 305)⟩, ⟨PySem.PyData.keyHash w.params ⟨#[97, 115, 99, 101, 110, 100, 105, 110, 103]⟩, (.str ⟨#[97, 115, 99, 101, 110, 100, 105, 110, 103]⟩ 581), (.ref 310)⟩, ⟨PySem.PyData.keyHash w.params ⟨#[102, 114, 101, 101]⟩, (.str ⟨#[102, 114, 101, 101]⟩ 588), (.ref 317)⟩, ⟨PySem.PyData.keyHash w.params ⟨#[103, 114, 101, 97, 116, 101, 115, 116]⟩, (.str ⟨#[103, 114, 101, 97, 116, 101, 115, 116]⟩ 595), (.ref 324)⟩, ⟨PySem.PyData.keyHash w.params ⟨#[112, 117, 116]⟩, (.str ⟨#[112, 117, 116]⟩ 601), (.ref 329)⟩, ⟨PySem.PyData.keyHash w.params ⟨#[102, 114, 101, 115, 104]⟩, (.str ⟨#[102, 114, 101, 115, 104]⟩ 609), (.ref 336)⟩, ⟨PySem.PyData.keyHash w.params ⟨#[119, 97, 121, 115]⟩, (.str ⟨#[119, 97, 121, 115]⟩ 615), (.ref 341)⟩, ⟨PySem.PyData.keyHash w.params ⟨#[108, 111, 110, 103, 101, 114, 95, 119, 97, 121, 115]⟩, (.str ⟨#[108, 111, 110, 103, 101, 114, 95, 119, 97, 121, 115]⟩ 621), (.ref 346)⟩, ⟨PySem.PyData.keyHash w.params ⟨#[119, 105, 100, 101, 110, 101, 100]⟩, (.str ⟨#[119, 105, 100, 101, 110, 101, 100]⟩ 627), (.ref 351)⟩, ⟨PySem.PyData.keyHash w.params ⟨#[101, 110, 111, 117, 103, 104]⟩, (.str ⟨#[101, 110, 111, 117, 103, 104]⟩ 636), (.ref 358)⟩, ⟨PySem.PyData.keyHash w.params ⟨#[115, 116, 97, 110, 100, 115]⟩, (.str ⟨#[115, 116, 97, 110, 100, 115]⟩ 646), (.ref 365)⟩, ⟨PySem.PyData.keyHash w.params ⟨#[102, 105, 108, 108, 105, 110, 103, 115]⟩, (.str ⟨#[102, 105, 108, 108, 105, 110, 103, 115]⟩ 652), (.ref 370)⟩, ⟨PySem.PyData.keyHash w.params ⟨#[116, 111, 108, 100, 95, 116, 101, 114, 109, 115]⟩, (.str ⟨#[116, 111, 108, 100, 95, 116, 101, 114, 109, 115]⟩ 658), (.ref 375)⟩, ⟨PySem.PyData.keyHash w.params ⟨#[117, 110, 108, 105, 107, 101]⟩, (.str ⟨#[117, 110, 108, 105, 107, 101]⟩ 668), (.ref 382)⟩, ⟨PySem.PyData.keyHash w.params ⟨#[101, 113, 117, 97, 108, 95, 108, 105, 115, 116, 115]⟩, (.str ⟨#[101, 113, 117, 97, 108, 95, 108, 105, 115, 116, 115]⟩ 674), (.ref 387)⟩, ⟨PySem.PyData.keyHash w.params ⟨#[105, 115, 95, 102, 108, 97, 116]⟩, (.str ⟨#[105, 115, 95, 102, 108, 97, 116]⟩ 680), (.ref 392)⟩, ⟨PySem.PyData.keyHash w.params ⟨#[102, 108, 97, 116, 95, 114, 111, 119, 115]⟩, (.str ⟨#[102, 108, 97, 116, 95, 114, 111, 119, 115]⟩ 686), (.ref 397)⟩, ⟨PySem.PyData.keyHash w.params ⟨#[115, 97, 109, 101]⟩, (.str ⟨#[115, 97, 109, 101]⟩ 699), (.ref 404)⟩, ⟨PySem.PyData.keyHash w.params ⟨#[109, 101, 109, 98, 101, 114]⟩, (.str ⟨#[109, 101, 109, 98, 101, 114]⟩ 705), (.ref 409)⟩, ⟨PySem.PyData.keyHash w.params ⟨#[119, 105, 116, 104, 105, 110]⟩, (.str ⟨#[119, 105, 116, 104, 105, 110]⟩ 711), (.ref 414)⟩, ⟨PySem.PyData.keyHash w.params ⟨#[104, 97, 115, 95, 115, 101, 116]⟩, (.str ⟨#[104, 97, 115, 95, 115, 101, 116]⟩ 719), (.ref 421)⟩, ⟨PySem.PyData.keyHash w.params ⟨#[114, 111, 119, 95, 111, 118, 101, 114]⟩, (.str ⟨#[114, 111, 119, 95, 111, 118, 101, 114]⟩ 725), (.ref 426)⟩, ⟨PySem.PyData.keyHash w.params ⟨#[98, 117, 105, 108, 116]⟩, (.str ⟨#[98, 117, 105, 108, 116]⟩ 731), (.ref 431)⟩, ⟨PySem.PyData.keyHash w.params ⟨#[115, 104, 105, 102, 116, 101, 100]⟩, (.str ⟨#[115, 104, 105, 102, 116, 101, 100]⟩ 737), (.ref 436)⟩, ⟨PySem.PyData.keyHash w.params ⟨#[69, 77, 80, 84, 89]⟩, (.str ⟨#[69, 77, 80, 84, 89]⟩ 739), (.ref 439)⟩, ⟨PySem.PyData.keyHash w.params ⟨#[115, 116, 111, 99, 107]⟩, (.str ⟨#[115, 116, 111, 99, 107]⟩ 745), (.ref 444)⟩, ⟨PySem.PyData.keyHash w.params ⟨#[82, 69, 83, 69, 82, 86, 69, 68]⟩, (.str ⟨#[82, 69, 83, 69, 82, 86, 69, 68]⟩ 764), (.ref 445)⟩, ⟨PySem.PyData.keyHash w.params ⟨#[68, 69, 69, 80, 69, 83, 84, 95, 116, 114, 101, 101, 115]⟩, (.str ⟨#[68, 69, 69, 80, 69, 83, 84, 95, 116, 114, 101, 101, 115]⟩ 766), (.int 40 765)⟩, ⟨PySem.PyData.keyHash w.params ⟨#[76, 69, 86, 69, 76, 83]⟩, (.str ⟨#[76, 69, 86, 69, 76, 83]⟩ 768), (.int 10 767)⟩, ⟨PySem.PyData.keyHash w.params ⟨#[71, 82, 69, 65, 84, 69, 83, 84]⟩, (.str ⟨#[71, 82, 69, 65, 84, 69, 83, 84]⟩ 772), (.int 1000000000000000000000000000000000000000000000000000000000000 771)⟩, ⟨PySem.PyData.keyHash w.params ⟨#[83, 73, 71, 78, 83]⟩, (.str ⟨#[83, 73, 71, 78, 83]⟩ 779), (.ref 446)⟩, ⟨PySem.PyData.keyHash w.params ⟨#[80, 76, 65, 73, 78]⟩, (.str ⟨#[80, 76, 65, 73, 78]⟩ 848), (.ref 447)⟩, ⟨PySem.PyData.keyHash w.params ⟨#[105, 115, 95, 119, 111, 114, 100]⟩, (.str ⟨#[105, 115, 95, 119, 111, 114, 100]⟩ 854), (.ref 469)⟩, ⟨PySem.PyData.keyHash w.params ⟨#[105, 115, 95, 110, 97, 109, 101]⟩, (.str ⟨#[105, 115, 95, 110, 97, 109, 101]⟩ 861), (.ref 476)⟩, ⟨PySem.PyData.keyHash w.params ⟨#[112, 97, 116, 116, 101, 114, 110, 95, 118, 97, 114, 105, 97, 98, 108, 101, 115]⟩, (.str ⟨#[112, 97, 116, 116, 101, 114, 110, 95, 118, 97, 114, 105, 97, 98, 108, 101, 115]⟩ 868), (.ref 483)⟩, ⟨PySem.PyData.keyHash w.params ⟨#[103, 111, 111, 100, 95, 112, 97, 116, 116, 101, 114, 110]⟩, (.str ⟨#[103, 111, 111, 100, 95, 112, 97, 116, 116, 101, 114, 110]⟩ 874), (.ref 488)⟩, ⟨PySem.PyData.keyHash w.params ⟨#[103, 111, 111, 100]⟩, (.str ⟨#[103, 111, 111, 100]⟩ 881), (.ref 494)⟩, ⟨PySem.PyData.keyHash w.params ⟨#[103, 111, 111, 100, 95, 101, 120, 112, 114, 101, 115, 115, 105, 111, 110]⟩, (.str ⟨#[103, 111, 111, 100, 95, 101, 120, 112, 114, 101, 115, 115, 105, 111, 110]⟩ 887), (.ref 499)⟩, ⟨PySem.PyData.keyHash w.params ⟨#[103, 111, 111, 100, 95, 103, 97, 116, 104, 101, 114]⟩, (.str ⟨#[103, 111, 111, 100, 95, 103, 97, 116, 104, 101, 114]⟩ 898), (.ref 506)⟩, ⟨PySem.PyData.keyHash w.params ⟨#[103, 111, 111, 100, 95, 116, 101, 115, 116]⟩, (.str ⟨#[103, 111, 111, 100, 95, 116, 101, 115, 116]⟩ 908), (.ref 513)⟩, ⟨PySem.PyData.keyHash w.params ⟨#[103, 111, 111, 100, 95, 104, 101, 97, 100]⟩, (.str ⟨#[103, 111, 111, 100, 95, 104, 101, 97, 100]⟩ 918), (.ref 520)⟩, ⟨PySem.PyData.keyHash w.params ⟨#[119, 114, 111, 110, 103, 95, 112, 108, 97, 99, 101]⟩, (.str ⟨#[119, 114, 111, 110, 103, 95, 112, 108, 97, 99, 101]⟩ 935), (.ref 529)⟩, ⟨PySem.PyData.keyHash w.params ⟨#[102, 114, 101, 101, 95, 118, 97, 114, 105, 97, 98, 108, 101, 115]⟩, (.str ⟨#[102, 114, 101, 101, 95, 118, 97, 114, 105, 97, 98, 108, 101, 115]⟩ 947), (.ref 538)⟩, ⟨PySem.PyData.keyHash w.params ⟨#[106, 111, 105, 110, 101, 100]⟩, (.str ⟨#[106, 111, 105, 110, 101, 100]⟩ 953), (.ref 543)⟩, ⟨PySem.PyData.keyHash w.params ⟨#[115, 116, 97, 116, 101, 95, 118, 97, 114, 105, 97, 98, 108, 101, 115]⟩, (.str ⟨#[115, 116, 97, 116, 101, 95, 118, 97, 114, 105, 97, 98, 108, 101, 115]⟩ 963), (.ref 550)⟩, ⟨PySem.PyData.keyHash w.params ⟨#[86, 65, 76, 85, 69, 95, 83, 73, 71, 78, 83]⟩, (.str ⟨#[86, 65, 76, 85, 69, 95, 83, 73, 71, 78, 83]⟩ 978), (.ref 551)⟩, ⟨PySem.PyData.keyHash w.params ⟨#[84, 69, 83, 84, 95, 83, 73, 71, 78, 83]⟩, (.str ⟨#[84, 69, 83, 84, 95, 83, 73, 71, 78, 83]⟩ 988), (.ref 552)⟩, ⟨PySem.PyData.keyHash w.params ⟨#[78, 85, 77, 66, 69, 82, 95, 83, 73, 71, 78, 83]⟩, (.str ⟨#[78, 85, 77, 66, 69, 82, 95, 83, 73, 71, 78, 83]⟩ 998), (.ref 553)⟩] 72), #[]⟩, boot_o_4 w.params, boot_o_5 w.params, boot_o_6 w.params, boot_o_7 w.params, boot_o_8 w.params, boot_o_9 w.params, boot_o_10 w.params, ⟨(.type "tuple"), none, (.seq #[] 0), #[]⟩, ⟨.none, none, (.fields #[(.int 1 0), (.int 0 0), (.ref 20), (.int 5 0), (.int 0 0), (.ref 27), (.int 7 0), (.int 0 0), (.ref 41), (.int 12 0), (.int 0 0), (.ref 62), (.int 17 0), (.int 0 0), (.ref 83), (.int 22 0), (.int 0 0), (.ref 104), (.int 28 0), (.int 0 0), (.ref 125), (.int 33 0), (.int 0 0), (.ref 146), (.int 38 0), (.int 0 0), (.ref 167), (.int 43 0), (.int 0 0), (.ref 187), (.int 45 0), (.int 0 0), (.ref 200), (.int 50 0), (.int 0 0), (.ref 221), (.int 56 0), (.int 0 0), (.ref 242), (.int 63 0), (.int 0 0), (.ref 263), (.int 69 0), (.int 0 0), (.ref 284), (.int 75 0), (.int 0 0), (.ref 304), (.int 87 0), (.int 0 0), (.ref 309), (.int 89 0), (.int 0 0), (.ref 316), (.int 91 0), (.int 0 0), (.ref 323), (.int 93 0), (.int 0 0), (.ref 328), (.int 107 0), (.int 0 0), (.ref 335), (.int 109 0), (.int 0 0), (.ref 340), (.int 114 0), (.int 0 0), (.ref 345), (.int 117 0), (.int 0 0), (.ref 350), (.int 124 0), (.int 0 0), (.ref 357), (.int 130 0), (.int 0 0), (.ref 364), (.int 132 0), (.int 0 0), (.ref 369), (.int 136 0), (.int 0 0), (.ref 374), (.int 141 0), (.int 0 0), (.ref 381), (.int 155 0), (.int 0 0), (.ref 386), (.int 157 0), (.int 0 0), (.ref 391), (.int 159 0), (.int 0 0), (.ref 396), (.int 161 0), (.int 0 0), (.ref 403), (.int 175 0), (.int 0 0), (.ref 408), (.int 187 0), (.int 0 0), (.ref 413), (.int 198 0), (.int 0 0), (.ref 420), (.int 204 0), (.int 0 0), (.ref 425), (.int 208 0), (.int 0 0), (.ref 430), (.int 223 0), (.int 0 0), (.ref 435), (.int 235 0), (.int 0 0), (.ref 443), (.int 244 0), (.int 0 0), (.ref 468), (.int 248 0), (.int 0 0), (.ref 475), (.int 250 0), (.int 0 0), (.ref 482), (.int 254 0), (.int 0 0), (.ref 487), (.int 263 0), (.int 0 0), (.ref 493), (.int 279 0), (.int 0 0), (.ref 498), (.int 292 0), (.int 0 0), (.ref 505), (.int 302 0), (.int 0 0), (.ref 512), (.int 312 0), (.int 0 0), (.ref 519), (.int 326 0), (.int 0 0), (.ref 528), (.int 337 0), (.int 0 0), (.ref 537), (.int 353 0), (.int 0 0), (.ref 542), (.int 355 0), (.int 0 0), (.ref 549)]), #[]⟩, ⟨(.type "code"), none, (.fields #[(.str ⟨#[60, 109, 111, 100, 117, 108, 101, 62]⟩ 182), (.str ⟨#[60, 109, 111, 100, 117, 108, 101, 62]⟩ 183), (.str ⟨#[47, 99, 108, 97, 105, 109, 47, 99, 117, 116, 46, 112, 121]⟩ 184), (.int 1 0), (.int 0 0), (.int 0 0), (.int 0 0), (.int 0 0), (.ref 11), (.bool false), (.int 181 0), (.ref 12), .none, .none, .none, .none, (.int 185 0), (.int 1 0), (.str ⟨#[47, 99, 108, 97, 105, 109, 47, 99, 117, 116, 46, 112, 121]⟩ 186)]), #[]⟩, ⟨(.type "frame"), none, .plain, #[(some (.ref 13)), (some (.ref 3)), (some (.ref 3)), none, (some (.str ⟨#[95, 95, 109, 97, 105, 110, 95, 95]⟩ 164)), none, (some (.ref 0))]⟩]
def O5 : List Nat := [29, 30, 31, 32, 38, 49, 50, 51, 52, 53, 197, 208, 209, 210, 211, 212, 281, 292, 293, 294, 295, 296, 437, 438, 439, 443, 444, 445, 468, 469, 475, 476, 521, 522, 528, 529, 542, 543, 549, 550]
def A5 : List Nat := []
def G5 (p : Program) (w : World) : List Obj := []
theorem grp5f (w : World) (os : OsState) (g : Nat → Obj) : grpO (HandSHeadRun.stepQ (HandSHeadRun.denQ HandSHeadRun.tabQ) PySem.W.Fast.tw10313853756172224601 (w.withFollow "special-get-raises" false)) 181 (O5 ++ A5) (boot_heap (w.withFollow "special-get-raises" false).params).life boot_drawn 966 os (F4 (w.withFollow "special-get-raises" false) ++ (List.range 536).map fun i => g (15 + i)) (piecesOf (((((((((((PySem.W.Fast.tw10313853756172224601).main.body).drop 16)).drop 33)).drop 1)).drop 14)).take 3) (envA PySem.W.Fast.tw10313853756172224601 13 14) (codeA PySem.W.Fast.tw10313853756172224601 13 14) ⟨366, 0, 366, 8⟩ [topFrame ⟨0, 0, 0, 0⟩]) =
    some (.next, (codeA PySem.W.Fast.tw10313853756172224601 13 14), ⟨369, 0, 369, 12⟩, 554, (boot_heap (w.withFollow "special-get-raises" false).params).life, 0, boot_drawn, 999, os, (F5 (w.withFollow "special-get-raises" false)).map some, (O5.map g ++ G5 PySem.W.Fast.tw10313853756172224601 (w.withFollow "special-get-raises" false)).map some) := by kernel_rfl
theorem grp5t (w : World) (os : OsState) (g : Nat → Obj) : grpO (HandSHeadRun.stepQ (HandSHeadRun.denQ HandSHeadRun.tabQ) PySem.W.Fast.tw10313853756172224601 (w.withFollow "special-get-raises" true)) 181 (O5 ++ A5) (boot_heap (w.withFollow "special-get-raises" true).params).life boot_drawn 966 os (F4 (w.withFollow "special-get-raises" true) ++ (List.range 536).map fun i => g (15 + i)) (piecesOf (((((((((((PySem.W.Fast.tw10313853756172224601).main.body).drop 16)).drop 33)).drop 1)).drop 14)).take 3) (envA PySem.W.Fast.tw10313853756172224601 13 14) (codeA PySem.W.Fast.tw10313853756172224601 13 14) ⟨366, 0, 366, 8⟩ [topFrame ⟨0, 0, 0, 0⟩]) =
    some (.next, (codeA PySem.W.Fast.tw10313853756172224601 13 14), ⟨369, 0, 369, 12⟩, 554, (boot_heap (w.withFollow "special-get-raises" true).params).life, 0, boot_drawn, 999, os, (F5 (w.withFollow "special-get-raises" true)).map some, (O5.map g ++ G5 PySem.W.Fast.tw10313853756172224601 (w.withFollow "special-get-raises" true)).map some) := by kernel_rfl
theorem grp5 (w : World) : ∀ (os : OsState) (g : Nat → Obj), grpO (HandSHeadRun.stepQ (HandSHeadRun.denQ HandSHeadRun.tabQ) PySem.W.Fast.tw10313853756172224601 w) 181 (O5 ++ A5) (boot_heap w.params).life boot_drawn 966 os (F4 w ++ (List.range 536).map fun i => g (15 + i)) (piecesOf (((((((((((PySem.W.Fast.tw10313853756172224601).main.body).drop 16)).drop 33)).drop 1)).drop 14)).take 3) (envA PySem.W.Fast.tw10313853756172224601 13 14) (codeA PySem.W.Fast.tw10313853756172224601 13 14) ⟨366, 0, 366, 8⟩ [topFrame ⟨0, 0, 0, 0⟩]) =
    some (.next, (codeA PySem.W.Fast.tw10313853756172224601 13 14), ⟨369, 0, 369, 12⟩, 554, (boot_heap w.params).life, 0, boot_drawn, 999, os, (F5 w).map some, (O5.map g ++ G5 PySem.W.Fast.tw10313853756172224601 w).map some) := byRow2 (P := fun w => ∀ (os : OsState) (g : Nat → Obj), grpO (HandSHeadRun.stepQ (HandSHeadRun.denQ HandSHeadRun.tabQ) PySem.W.Fast.tw10313853756172224601 w) 181 (O5 ++ A5) (boot_heap w.params).life boot_drawn 966 os (F4 w ++ (List.range 536).map fun i => g (15 + i)) (piecesOf (((((((((((PySem.W.Fast.tw10313853756172224601).main.body).drop 16)).drop 33)).drop 1)).drop 14)).take 3) (envA PySem.W.Fast.tw10313853756172224601 13 14) (codeA PySem.W.Fast.tw10313853756172224601 13 14) ⟨366, 0, 366, 8⟩ [topFrame ⟨0, 0, 0, 0⟩]) =
    some (.next, (codeA PySem.W.Fast.tw10313853756172224601 13 14), ⟨369, 0, 369, 12⟩, 554, (boot_heap w.params).life, 0, boot_drawn, 999, os, (F5 w).map some, (O5.map g ++ G5 PySem.W.Fast.tw10313853756172224601 w).map some)) "special-get-raises" (fun w => grp5f w) (fun w => grp5t w) w
def F6 (w : World) : List Obj := [boot_o_0 w.params, boot_o_1 w.params, ⟨.none, none, (.dict #[⟨PySem.PyData.keyHash w.params ⟨#[116, 121, 112, 101, 46, 95, 95, 115, 117, 98, 99, 108, 97, 115, 115, 101, 115, 95, 95, 46, 69, 120, 99, 101, 112, 116, 105, 111, 110, 46, 48]⟩, (.str ⟨#[116, 121, 112, 101, 46, 95, 95, 115, 117, 98, 99, 108, 97, 115, 115, 101, 115, 95, 95, 46, 69, 120, 99, 101, 112, 116, 105, 111, 110, 46, 48]⟩ 1035), (.int 573 0)⟩, ⟨PySem.PyData.keyHash w.params ⟨#[116, 121, 112, 101, 46, 95, 95, 115, 117, 98, 99, 108, 97, 115, 115, 101, 115, 95, 95, 46, 69, 120, 99, 101, 112, 116, 105, 111, 110, 46, 110]⟩, (.str ⟨#[116, 121, 112, 101, 46, 95, 95, 115, 117, 98, 99, 108, 97, 115, 115, 101, 115, 95, 95, 46, 69, 120, 99, 101, 112, 116, 105, 111, 110, 46, 110]⟩ 1036), (.int 1 0)⟩] 2), #[]⟩, ⟨(.type "dict"), none, (.dict #[⟨PySem.PyData.keyHash w.params ⟨#[95, 95, 110, 97, 109, 101, 95, 95]⟩, (.str ⟨#[95, 95, 110, 97, 109, 101, 95, 95]⟩ 165), (.str ⟨#[101, 118, 101, 114, 121, 110, 97, 109, 101, 46, 119, 114, 105, 116, 105, 110, 103]⟩ 1306)⟩, ⟨PySem.PyData.keyHash w.params ⟨#[95, 95, 100, 111, 99, 95, 95]⟩, (.str ⟨#[95, 95, 100, 111, 99, 95, 95]⟩ 166), .none⟩, ⟨PySem.PyData.keyHash w.params ⟨#[95, 95, 112, 97, 99, 107, 97, 103, 101, 95, 95]⟩, (.str ⟨#[95, 95, 112, 97, 99, 107, 97, 103, 101, 95, 95]⟩ 167), .none⟩, ⟨PySem.PyData.keyHash w.params ⟨#[95, 95, 108, 111, 97, 100, 101, 114, 95, 95]⟩, (.str ⟨#[95, 95, 108, 111, 97, 100, 101, 114, 95, 95]⟩ 168), (.builtin "__main__.__loader__#opaque")⟩, ⟨PySem.PyData.keyHash w.params ⟨#[95, 95, 115, 112, 101, 99, 95, 95]⟩, (.str ⟨#[95, 95, 115, 112, 101, 99, 95, 95]⟩ 169), .none⟩, ⟨PySem.PyData.keyHash w.params ⟨#[95, 95, 97, 110, 110, 111, 116, 97, 116, 105, 111, 110, 115, 95, 95]⟩, (.str ⟨#[95, 95, 97, 110, 110, 111, 116, 97, 116, 105, 111, 110, 115, 95, 95]⟩ 170), (.ref 6)⟩, ⟨PySem.PyData.keyHash w.params ⟨#[95, 95, 98, 117, 105, 108, 116, 105, 110, 115, 95, 95]⟩, (.str ⟨#[95, 95, 98, 117, 105, 108, 116, 105, 110, 115, 95, 95]⟩ 171), (.ref 4)⟩, ⟨PySem.PyData.keyHash w.params ⟨#[95, 95, 102, 105, 108, 101, 95, 95]⟩, (.str ⟨#[95, 95, 102, 105, 108, 101, 95, 95]⟩ 173), (.str ⟨#[47, 99, 108, 97, 105, 109, 47, 99, 117, 116, 46, 112, 121]⟩ 172)⟩, ⟨PySem.PyData.keyHash w.params ⟨#[95, 95, 99, 97, 99, 104, 101, 100, 95, 95]⟩, (.str ⟨#[95, 95, 99, 97, 99, 104, 101, 100, 95, 95]⟩ 174), .none⟩, ⟨PySem.PyData.keyHash w.params ⟨#[95, 119, 97, 108, 108]⟩, (.str ⟨#[95, 119, 97, 108, 108]⟩ 193), (.ref 21)⟩, ⟨PySem.PyData.keyHash w.params ⟨#[69, 118, 101, 114, 121, 110, 97, 109, 101, 69, 114, 114, 111, 114]⟩, (.str ⟨#[69, 118, 101, 114, 121, 110, 97, 109, 101, 69, 114, 114, 111, 114]⟩ 213), (.ref 31)⟩, ⟨PySem.PyData.keyHash w.params ⟨#[66, 97, 100, 80, 114, 111, 103, 114, 97, 109]⟩, (.str ⟨#[66, 97, 100, 80, 114, 111, 103, 114, 97, 109]⟩ 240), (.ref 53)⟩, ⟨PySem.PyData.keyHash w.params ⟨#[66, 97, 100, 84, 101, 120, 116]⟩, (.str ⟨#[66, 97, 100, 84, 101, 120, 116]⟩ 267), (.ref 74)⟩, ⟨PySem.PyData.keyHash w.params ⟨#[66, 97, 100, 86, 97, 108, 117, 101]⟩, (.str ⟨#[66, 97, 100, 86, 97, 108, 117, 101]⟩ 294), (.ref 95)⟩, ⟨PySem.PyData.keyHash w.params ⟨#[79, 116, 104, 101, 114, 83, 116, 111, 99, 107]⟩, (.str ⟨#[79, 116, 104, 101, 114, 83, 116, 111, 99, 107]⟩ 323), (.ref 116)⟩, ⟨PySem.PyData.keyHash w.params ⟨#[84, 111, 111, 77, 97, 110, 121]⟩, (.str ⟨#[84, 111, 111, 77, 97, 110, 121]⟩ 350), (.ref 137)⟩, ⟨PySem.PyData.keyHash w.params ⟨#[78, 111, 86, 97, 114, 105, 97, 98, 108, 101]⟩, (.str ⟨#[78, 111, 86, 97, 114, 105, 97, 98, 108, 101]⟩ 377), (.ref 158)⟩, ⟨PySem.PyData.keyHash w.params ⟨#[78, 111, 116, 69, 120, 97, 99, 116]⟩, (.str ⟨#[78, 111, 116, 69, 120, 97, 99, 116]⟩ 404), (.ref 179)⟩, ⟨PySem.PyData.keyHash w.params ⟨#[69, 109, 112, 116, 121, 83, 112, 97, 110]⟩, (.str ⟨#[69, 109, 112, 116, 121, 83, 112, 97, 110]⟩ 420), (.ref 191)⟩, ⟨PySem.PyData.keyHash w.params ⟨#[66, 97, 100, 78, 97, 109, 101]⟩, (.str ⟨#[66, 97, 100, 78, 97, 109, 101]⟩ 447), (.ref 212)⟩, ⟨PySem.PyData.keyHash w.params ⟨#[66, 97, 100, 82, 117, 108, 101]⟩, (.str ⟨#[66, 97, 100, 82, 117, 108, 101]⟩ 476), (.ref 233)⟩, ⟨PySem.PyData.keyHash w.params ⟨#[82, 101, 115, 116, 108, 101, 115, 115]⟩, (.str ⟨#[82, 101, 115, 116, 108, 101, 115, 115]⟩ 507), (.ref 254)⟩, ⟨PySem.PyData.keyHash w.params ⟨#[66, 114, 111, 107, 101, 110]⟩, (.str ⟨#[66, 114, 111, 107, 101, 110]⟩ 536), (.ref 275)⟩, ⟨PySem.PyData.keyHash w.params ⟨#[83, 101, 97, 109]⟩, (.str ⟨#[83, 101, 97, 109]⟩ 563), (.ref 296)⟩, ⟨PySem.PyData.keyHash w.params ⟨#[111, 99, 99, 117, 114, 114, 105, 110, 103]⟩, (.str ⟨#[111, 99, 99, 117, 114, 114, 105, 110, 103]⟩ 575), (.ref 305)⟩, ⟨PySem.PyData.keyHash w.params ⟨#[97, 115, 99, 101, 110, 100, 105, 110, 103]⟩, (.str ⟨#[97, 115, 99, 101, 110, 100, 105, 110, 103]⟩ 581), (.ref 310)⟩, ⟨PySem.PyData.keyHash w.params ⟨#[102, 114, 101, 101]⟩, (.str ⟨#[102, 114, 101, 101]⟩ 588), (.ref 317)⟩, ⟨PySem.PyData.keyHash w.params ⟨#[103, 114, 101, 97, 116, 101, 115, 116]⟩, (.str ⟨#[103, 114, 101, 97, 116, 101, 115, 116]⟩ 595), (.ref 324)⟩, ⟨PySem.PyData.keyHash w.params ⟨#[112, 117, 116]⟩, (.str ⟨#[112, 117, 116]⟩ 601), (.ref 329)⟩, ⟨PySem.PyData.keyHash w.params ⟨#[102, 114, 101, 115, 104]⟩, (.str ⟨#[102, 114, 101, 115, 104]⟩ 609), (.ref 336)⟩, ⟨PySem.PyData.keyHash w.params ⟨#[119, 97, 121, 115]⟩, (.str ⟨#[119, 97, 121, 115]⟩ 615), (.ref 341)⟩, ⟨PySem.PyData.keyHash w.params ⟨#[108, 111, 110, 103, 101, 114, 95, 119, 97, 121, 115]⟩, (.str ⟨#[108, 111, 110, 103, 101, 114, 95, 119, 97, 121, 115]⟩ 621), (.ref 346)⟩, ⟨PySem.PyData.keyHash w.params ⟨#[119, 105, 100, 101, 110, 101, 100]⟩, (.str ⟨#[119, 105, 100, 101, 110, 101, 100]⟩ 627), (.ref 351)⟩, ⟨PySem.PyData.keyHash w.params ⟨#[101, 110, 111, 117, 103, 104]⟩, (.str ⟨#[101, 110, 111, 117, 103, 104]⟩ 636), (.ref 358)⟩, ⟨PySem.PyData.keyHash w.params ⟨#[115, 116, 97, 110, 100, 115]⟩, (.str ⟨#[115, 116, 97, 110, 100, 115]⟩ 646), (.ref 365)⟩, ⟨PySem.PyData.keyHash w.params ⟨#[102, 105, 108, 108, 105, 110, 103, 115]⟩, (.str ⟨#[102, 105, 108, 108, 105, 110, 103, 115]⟩ 652), (.ref 370)⟩, ⟨PySem.PyData.keyHash w.params ⟨#[116, 111, 108, 100, 95, 116, 101, 114, 109, 115]⟩, (.str ⟨#[116, 111, 108, 100, 95, 116, 101, 114, 109, 115]⟩ 658), (.ref 375)⟩, ⟨PySem.PyData.keyHash w.params ⟨#[117, 110, 108, 105, 107, 101]⟩, (.str ⟨#[117, 110, 108, 105, 107, 101]⟩ 668), (.ref 382)⟩, ⟨PySem.PyData.keyHash w.params ⟨#[101, 113, 117, 97, 108, 95, 108, 105, 115, 116, 115]⟩, (.str ⟨#[101, 113, 117, 97, 108, 95, 108, 105, 115, 116, 115]⟩ 674), (.ref 387)⟩, ⟨PySem.PyData.keyHash w.params ⟨#[105, 115, 95, 102, 108, 97, 116]⟩, (.str ⟨#[105, 115, 95, 102, 108, 97, 116]⟩ 680), (.ref 392)⟩, ⟨PySem.PyData.keyHash w.params ⟨#[102, 108, 97, 116, 95, 114, 111, 119, 115]⟩, (.str ⟨#[102, 108, 97, 116, 95, 114, 111, 119, 115]⟩ 686), (.ref 397)⟩, ⟨PySem.PyData.keyHash w.params ⟨#[115, 97, 109, 101]⟩, (.str ⟨#[115, 97, 109, 101]⟩ 699), (.ref 404)⟩, ⟨PySem.PyData.keyHash w.params ⟨#[109, 101, 109, 98, 101, 114]⟩, (.str ⟨#[109, 101, 109, 98, 101, 114]⟩ 705), (.ref 409)⟩, ⟨PySem.PyData.keyHash w.params ⟨#[119, 105, 116, 104, 105, 110]⟩, (.str ⟨#[119, 105, 116, 104, 105, 110]⟩ 711), (.ref 414)⟩, ⟨PySem.PyData.keyHash w.params ⟨#[104, 97, 115, 95, 115, 101, 116]⟩, (.str ⟨#[104, 97, 115, 95, 115, 101, 116]⟩ 719), (.ref 421)⟩, ⟨PySem.PyData.keyHash w.params ⟨#[114, 111, 119, 95, 111, 118, 101, 114]⟩, (.str ⟨#[114, 111, 119, 95, 111, 118, 101, 114]⟩ 725), (.ref 426)⟩, ⟨PySem.PyData.keyHash w.params ⟨#[98, 117, 105, 108, 116]⟩, (.str ⟨#[98, 117, 105, 108, 116]⟩ 731), (.ref 431)⟩, ⟨PySem.PyData.keyHash w.params ⟨#[115, 104, 105, 102, 116, 101, 100]⟩, (.str ⟨#[115, 104, 105, 102, 116, 101, 100]⟩ 737), (.ref 436)⟩, ⟨PySem.PyData.keyHash w.params ⟨#[69, 77, 80, 84, 89]⟩, (.str ⟨#[69, 77, 80, 84, 89]⟩ 739), (.ref 439)⟩, ⟨PySem.PyData.keyHash w.params ⟨#[115, 116, 111, 99, 107]⟩, (.str ⟨#[115, 116, 111, 99, 107]⟩ 745), (.ref 444)⟩, ⟨PySem.PyData.keyHash w.params ⟨#[82, 69, 83, 69, 82, 86, 69, 68]⟩, (.str ⟨#[82, 69, 83, 69, 82, 86, 69, 68]⟩ 764), (.ref 445)⟩, ⟨PySem.PyData.keyHash w.params ⟨#[68, 69, 69, 80, 69, 83, 84, 95, 116, 114, 101, 101, 115]⟩, (.str ⟨#[68, 69, 69, 80, 69, 83, 84, 95, 116, 114, 101, 101, 115]⟩ 766), (.int 40 765)⟩, ⟨PySem.PyData.keyHash w.params ⟨#[76, 69, 86, 69, 76, 83]⟩, (.str ⟨#[76, 69, 86, 69, 76, 83]⟩ 768), (.int 10 767)⟩, ⟨PySem.PyData.keyHash w.params ⟨#[71, 82, 69, 65, 84, 69, 83, 84]⟩, (.str ⟨#[71, 82, 69, 65, 84, 69, 83, 84]⟩ 772), (.int 1000000000000000000000000000000000000000000000000000000000000 771)⟩, ⟨PySem.PyData.keyHash w.params ⟨#[83, 73, 71, 78, 83]⟩, (.str ⟨#[83, 73, 71, 78, 83]⟩ 779), (.ref 446)⟩, ⟨PySem.PyData.keyHash w.params ⟨#[80, 76, 65, 73, 78]⟩, (.str ⟨#[80, 76, 65, 73, 78]⟩ 848), (.ref 447)⟩, ⟨PySem.PyData.keyHash w.params ⟨#[105, 115, 95, 119, 111, 114, 100]⟩, (.str ⟨#[105, 115, 95, 119, 111, 114, 100]⟩ 854), (.ref 469)⟩, ⟨PySem.PyData.keyHash w.params ⟨#[105, 115, 95, 110, 97, 109, 101]⟩, (.str ⟨#[105, 115, 95, 110, 97, 109, 101]⟩ 861), (.ref 476)⟩, ⟨PySem.PyData.keyHash w.params ⟨#[112, 97, 116, 116, 101, 114, 110, 95, 118, 97, 114, 105, 97, 98, 108, 101, 115]⟩, (.str ⟨#[112, 97, 116, 116, 101, 114, 110, 95, 118, 97, 114, 105, 97, 98, 108, 101, 115]⟩ 868), (.ref 483)⟩, ⟨PySem.PyData.keyHash w.params ⟨#[103, 111, 111, 100, 95, 112, 97, 116, 116, 101, 114, 110]⟩, (.str ⟨#[103, 111, 111, 100, 95, 112, 97, 116, 116, 101, 114, 110]⟩ 874), (.ref 488)⟩, ⟨PySem.PyData.keyHash w.params ⟨#[103, 111, 111, 100]⟩, (.str ⟨#[103, 111, 111, 100]⟩ 881), (.ref 494)⟩, ⟨PySem.PyData.keyHash w.params ⟨#[103, 111, 111, 100, 95, 101, 120, 112, 114, 101, 115, 115, 105, 111, 110]⟩, (.str ⟨#[103, 111, 111, 100, 95, 101, 120, 112, 114, 101, 115, 115, 105, 111, 110]⟩ 887), (.ref 499)⟩, ⟨PySem.PyData.keyHash w.params ⟨#[103, 111, 111, 100, 95, 103, 97, 116, 104, 101, 114]⟩, (.str ⟨#[103, 111, 111, 100, 95, 103, 97, 116, 104, 101, 114]⟩ 898), (.ref 506)⟩, ⟨PySem.PyData.keyHash w.params ⟨#[103, 111, 111, 100, 95, 116, 101, 115, 116]⟩, (.str ⟨#[103, 111, 111, 100, 95, 116, 101, 115, 116]⟩ 908), (.ref 513)⟩, ⟨PySem.PyData.keyHash w.params ⟨#[103, 111, 111, 100, 95, 104, 101, 97, 100]⟩, (.str ⟨#[103, 111, 111, 100, 95, 104, 101, 97, 100]⟩ 918), (.ref 520)⟩, ⟨PySem.PyData.keyHash w.params ⟨#[119, 114, 111, 110, 103, 95, 112, 108, 97, 99, 101]⟩, (.str ⟨#[119, 114, 111, 110, 103, 95, 112, 108, 97, 99, 101]⟩ 935), (.ref 529)⟩, ⟨PySem.PyData.keyHash w.params ⟨#[102, 114, 101, 101, 95, 118, 97, 114, 105, 97, 98, 108, 101, 115]⟩, (.str ⟨#[102, 114, 101, 101, 95, 118, 97, 114, 105, 97, 98, 108, 101, 115]⟩ 947), (.ref 538)⟩, ⟨PySem.PyData.keyHash w.params ⟨#[106, 111, 105, 110, 101, 100]⟩, (.str ⟨#[106, 111, 105, 110, 101, 100]⟩ 953), (.ref 543)⟩, ⟨PySem.PyData.keyHash w.params ⟨#[115, 116, 97, 116, 101, 95, 118, 97, 114, 105, 97, 98, 108, 101, 115]⟩, (.str ⟨#[115, 116, 97, 116, 101, 95, 118, 97, 114, 105, 97, 98, 108, 101, 115]⟩ 963), (.ref 550)⟩, ⟨PySem.PyData.keyHash w.params ⟨#[86, 65, 76, 85, 69, 95, 83, 73, 71, 78, 83]⟩, (.str ⟨#[86, 65, 76, 85, 69, 95, 83, 73, 71, 78, 83]⟩ 978), (.ref 551)⟩, ⟨PySem.PyData.keyHash w.params ⟨#[84, 69, 83, 84, 95, 83, 73, 71, 78, 83]⟩, (.str ⟨#[84, 69, 83, 84, 95, 83, 73, 71, 78, 83]⟩ 988), (.ref 552)⟩, ⟨PySem.PyData.keyHash w.params ⟨#[78, 85, 77, 66, 69, 82, 95, 83, 73, 71, 78, 83]⟩, (.str ⟨#[78, 85, 77, 66, 69, 82, 95, 83, 73, 71, 78, 83]⟩ 998), (.ref 553)⟩, ⟨PySem.PyData.keyHash w.params ⟨#[67, 79, 77, 80, 65, 82, 69]⟩, (.str ⟨#[67, 79, 77, 80, 65, 82, 69]⟩ 1005), (.ref 554)⟩, ⟨PySem.PyData.keyHash w.params ⟨#[68, 69, 69, 80, 69, 83, 84, 95, 114, 101, 97, 100, 105, 110, 103]⟩, (.str ⟨#[68, 69, 69, 80, 69, 83, 84, 95, 114, 101, 97, 100, 105, 110, 103]⟩ 1007), (.int 40 1006)⟩, ⟨PySem.PyData.keyHash w.params ⟨#[85, 110, 114, 101, 97, 100]⟩, (.str ⟨#[85, 110, 114, 101, 97, 100]⟩ 1038), (.ref 573)⟩, ⟨PySem.PyData.keyHash w.params ⟨#[82, 101, 97, 100, 101, 114]⟩, (.str ⟨#[82, 101, 97, 100, 101, 114]⟩ 1193), (.ref 677)⟩, ⟨PySem.PyData.keyHash w.params ⟨#[98, 114, 97, 99, 107, 101, 116, 101, 100]⟩, (.str ⟨#[98, 114, 97, 99, 107, 101, 116, 101, 100]⟩ 1204), (.ref 688)⟩, ⟨PySem.PyData.keyHash w.params ⟨#[70, 73, 82, 83, 84]⟩, (.str ⟨#[70, 73, 82, 83, 84]⟩ 1208), (.str ⟨#[107, 110, 111, 119, 110]⟩ 1207)⟩, ⟨PySem.PyData.keyHash w.params ⟨#[65, 83, 83, 73, 71, 78, 95, 108, 105, 110, 101, 115]⟩, (.str ⟨#[65, 83, 83, 73, 71, 78, 95, 108, 105, 110, 101, 115]⟩ 1215), (.ref 692)⟩, ⟨PySem.PyData.keyHash w.params ⟨#[114, 101, 97, 100, 95, 108, 105, 110, 101, 115]⟩, (.str ⟨#[114, 101, 97, 100, 95, 108, 105, 110, 101, 115]⟩ 1226), (.ref 699)⟩, ⟨PySem.PyData.keyHash w.params ⟨#[114, 101, 97, 100, 95, 107, 110, 111, 119, 110]⟩, (.str ⟨#[114, 101, 97, 100, 95, 107, 110, 111, 119, 110]⟩ 1232), (.ref 704)⟩, ⟨PySem.PyData.keyHash w.params ⟨#[105, 110, 100, 101, 110, 116, 97, 116, 105, 111, 110]⟩, (.str ⟨#[105, 110, 100, 101, 110, 116, 97, 116, 105, 111, 110]⟩ 1239), (.ref 711)⟩, ⟨PySem.PyData.keyHash w.params ⟨#[114, 101, 97, 100, 95, 98, 108, 111, 99, 107]⟩, (.str ⟨#[114, 101, 97, 100, 95, 98, 108, 111, 99, 107]⟩ 1251), (.ref 718)⟩, ⟨PySem.PyData.keyHash w.params ⟨#[114, 101, 97, 100, 95, 115, 116, 97, 116, 101, 109, 101, 110, 116]⟩, (.str ⟨#[114, 101, 97, 100, 95, 115, 116, 97, 116, 101, 109, 101, 110, 116]⟩ 1267), (.ref 725)⟩, ⟨PySem.PyData.keyHash w.params ⟨#[114, 101, 97, 100, 95, 105, 110, 110, 101, 114]⟩, (.str ⟨#[114, 101, 97, 100, 95, 105, 110, 110, 101, 114]⟩ 1278), (.ref 732)⟩, ⟨PySem.PyData.keyHash w.params ⟨#[114, 101, 97, 100, 95, 104, 101, 97, 100]⟩, (.str ⟨#[114, 101, 97, 100, 95, 104, 101, 97, 100]⟩ 1294), (.ref 739)⟩, ⟨PySem.PyData.keyHash w.params ⟨#[104, 101, 97, 100, 95, 111, 102]⟩, (.str ⟨#[104, 101, 97, 100, 95, 111, 102]⟩ 1305), (.ref 746)⟩] 87), #[]⟩, boot_o_4 w.params, boot_o_5 w.params, boot_o_6 w.params, boot_o_7 w.params, boot_o_8 w.params, boot_o_9 w.params, boot_o_10 w.params, ⟨(.type "tuple"), none, (.seq #[] 0), #[]⟩, ⟨.none, none, (.fields #[(.int 1 0), (.int 0 0), (.ref 20), (.int 5 0), (.int 0 0), (.ref 27), (.int 7 0), (.int 0 0), (.ref 41), (.int 12 0), (.int 0 0), (.ref 62), (.int 17 0), (.int 0 0), (.ref 83), (.int 22 0), (.int 0 0), (.ref 104), (.int 28 0), (.int 0 0), (.ref 125), (.int 33 0), (.int 0 0), (.ref 146), (.int 38 0), (.int 0 0), (.ref 167), (.int 43 0), (.int 0 0), (.ref 187), (.int 45 0), (.int 0 0), (.ref 200), (.int 50 0), (.int 0 0), (.ref 221), (.int 56 0), (.int 0 0), (.ref 242), (.int 63 0), (.int 0 0), (.ref 263), (.int 69 0), (.int 0 0), (.ref 284), (.int 75 0), (.int 0 0), (.ref 304), (.int 87 0), (.int 0 0), (.ref 309), (.int 89 0), (.int 0 0), (.ref 316), (.int 91 0), (.int 0 0), (.ref 323), (.int 93 0), (.int 0 0), (.ref 328), (.int 107 0), (.int 0 0), (.ref 335), (.int 109 0), (.int 0 0), (.ref 340), (.int 114 0), (.int 0 0), (.ref 345), (.int 117 0), (.int 0 0), (.ref 350), (.int 124 0), (.int 0 0), (.ref 357), (.int 130 0), (.int 0 0), (.ref 364), (.int 132 0), (.int 0 0), (.ref 369), (.int 136 0), (.int 0 0), (.ref 374), (.int 141 0), (.int 0 0), (.ref 381), (.int 155 0), (.int 0 0), (.ref 386), (.int 157 0), (.int 0 0), (.ref 391), (.int 159 0), (.int 0 0), (.ref 396), (.int 161 0), (.int 0 0), (.ref 403), (.int 175 0), (.int 0 0), (.ref 408), (.int 187 0), (.int 0 0), (.ref 413), (.int 198 0), (.int 0 0), (.ref 420), (.int 204 0), (.int 0 0), (.ref 425), (.int 208 0), (.int 0 0), (.ref 430), (.int 223 0), (.int 0 0), (.ref 435), (.int 235 0), (.int 0 0), (.ref 443), (.int 244 0), (.int 0 0), (.ref 468), (.int 248 0), (.int 0 0), (.ref 475), (.int 250 0), (.int 0 0), (.ref 482), (.int 254 0), (.int 0 0), (.ref 487), (.int 263 0), (.int 0 0), (.ref 493), (.int 279 0), (.int 0 0), (.ref 498), (.int 292 0), (.int 0 0), (.ref 505), (.int 302 0), (.int 0 0), (.ref 512), (.int 312 0), (.int 0 0), (.ref 519), (.int 326 0), (.int 0 0), (.ref 528), (.int 337 0), (.int 0 0), (.ref 537), (.int 353 0), (.int 0 0), (.ref 542), (.int 355 0), (.int 0 0), (.ref 549), (.int 372 0), (.int 0 0), (.ref 561), (.int 377 0), (.int 0 0), (.ref 582), (.int 527 0), (.int 0 0), (.ref 687), (.int 542 0), (.int 0 0), (.ref 698), (.int 551 0), (.int 0 0), (.ref 703), (.int 560 0), (.int 0 0), (.ref 710), (.int 562 0), (.int 0 0), (.ref 717), (.int 568 0), (.int 0 0), (.ref 724), (.int 581 0), (.int 0 0), (.ref 731), (.int 587 0), (.int 0 0), (.ref 738), (.int 600 0), (.int 0 0), (.ref 745)]), #[]⟩, ⟨(.type "code"), none, (.fields #[(.str ⟨#[60, 109, 111, 100, 117, 108, 101, 62]⟩ 182), (.str ⟨#[60, 109, 111, 100, 117, 108, 101, 62]⟩ 183), (.str ⟨#[47, 99, 108, 97, 105, 109, 47, 99, 117, 116, 46, 112, 121]⟩ 184), (.int 1 0), (.int 0 0), (.int 0 0), (.int 0 0), (.int 0 0), (.ref 11), (.bool false), (.int 181 0), (.ref 12), .none, .none, .none, .none, (.int 185 0), (.int 1 0), (.str ⟨#[47, 99, 108, 97, 105, 109, 47, 99, 117, 116, 46, 112, 121]⟩ 186)]), #[]⟩, ⟨(.type "frame"), none, .plain, #[(some (.ref 13)), (some (.ref 3)), (some (.ref 3)), none, (some (.str ⟨#[95, 95, 109, 97, 105, 110, 95, 95]⟩ 164)), none, (some (.ref 0))]⟩]
def O6 : List Nat := [29, 30, 31, 32, 38, 49, 50, 51, 52, 53, 197, 208, 209, 210, 211, 212, 281, 292, 293, 294, 295, 296, 437, 438, 439, 443, 444, 445, 468, 469, 475, 476, 521, 522, 528, 529, 542, 543, 549, 550]
def A6 : List Nat := []
def G6 (p : Program) (w : World) : List Obj := []
theorem grp6 (w : World) (os : OsState) (g : Nat → Obj) : grpO (HandSHeadRun.stepQ (HandSHeadRun.denQ HandSHeadRun.tabQ) PySem.W.Fast.tw10313853756172224601 w) 1252 (O6 ++ A6) (boot_heap w.params).life boot_drawn 999 os (F5 w ++ (List.range 539).map fun i => g (15 + i)) (piecesOf (((((((((((((PySem.W.Fast.tw10313853756172224601).main.body).drop 16)).drop 33)).drop 1)).drop 14)).drop 3)).take 17) (envA PySem.W.Fast.tw10313853756172224601 13 14) (codeA PySem.W.Fast.tw10313853756172224601 13 14) ⟨369, 0, 369, 12⟩ [topFrame ⟨0, 0, 0, 0⟩]) =
    some (.next, (codeA PySem.W.Fast.tw10313853756172224601 13 14), ⟨614, 0, 614, 8⟩, 747, (boot_heap w.params).life, 0, boot_drawn, 1308, os, (F6 w).map some, (O6.map g ++ G6 PySem.W.Fast.tw10313853756172224601 w).map some) := by kernel_rfl
def F7 (w : World) : List Obj := [boot_o_0 w.params, boot_o_1 w.params, ⟨.none, none, (.dict #[⟨PySem.PyData.keyHash w.params ⟨#[116, 121, 112, 101, 46, 95, 95, 115, 117, 98, 99, 108, 97, 115, 115, 101, 115, 95, 95, 46, 69, 120, 99, 101, 112, 116, 105, 111, 110, 46, 48]⟩, (.str ⟨#[116, 121, 112, 101, 46, 95, 95, 115, 117, 98, 99, 108, 97, 115, 115, 101, 115, 95, 95, 46, 69, 120, 99, 101, 112, 116, 105, 111, 110, 46, 48]⟩ 1035), (.int 573 0)⟩, ⟨PySem.PyData.keyHash w.params ⟨#[116, 121, 112, 101, 46, 95, 95, 115, 117, 98, 99, 108, 97, 115, 115, 101, 115, 95, 95, 46, 69, 120, 99, 101, 112, 116, 105, 111, 110, 46, 110]⟩, (.str ⟨#[116, 121, 112, 101, 46, 95, 95, 115, 117, 98, 99, 108, 97, 115, 115, 101, 115, 95, 95, 46, 69, 120, 99, 101, 112, 116, 105, 111, 110, 46, 110]⟩ 1036), (.int 1 0)⟩] 2), #[]⟩, ⟨(.type "dict"), none, (.dict #[⟨PySem.PyData.keyHash w.params ⟨#[95, 95, 110, 97, 109, 101, 95, 95]⟩, (.str ⟨#[95, 95, 110, 97, 109, 101, 95, 95]⟩ 165), (.str ⟨#[101, 118, 101, 114, 121, 110, 97, 109, 101, 46, 119, 114, 105, 116, 105, 110, 103]⟩ 1306)⟩, ⟨PySem.PyData.keyHash w.params ⟨#[95, 95, 100, 111, 99, 95, 95]⟩, (.str ⟨#[95, 95, 100, 111, 99, 95, 95]⟩ 166), .none⟩, ⟨PySem.PyData.keyHash w.params ⟨#[95, 95, 112, 97, 99, 107, 97, 103, 101, 95, 95]⟩, (.str ⟨#[95, 95, 112, 97, 99, 107, 97, 103, 101, 95, 95]⟩ 167), .none⟩, ⟨PySem.PyData.keyHash w.params ⟨#[95, 95, 108, 111, 97, 100, 101, 114, 95, 95]⟩, (.str ⟨#[95, 95, 108, 111, 97, 100, 101, 114, 95, 95]⟩ 168), (.builtin "__main__.__loader__#opaque")⟩, ⟨PySem.PyData.keyHash w.params ⟨#[95, 95, 115, 112, 101, 99, 95, 95]⟩, (.str ⟨#[95, 95, 115, 112, 101, 99, 95, 95]⟩ 169), .none⟩, ⟨PySem.PyData.keyHash w.params ⟨#[95, 95, 97, 110, 110, 111, 116, 97, 116, 105, 111, 110, 115, 95, 95]⟩, (.str ⟨#[95, 95, 97, 110, 110, 111, 116, 97, 116, 105, 111, 110, 115, 95, 95]⟩ 170), (.ref 6)⟩, ⟨PySem.PyData.keyHash w.params ⟨#[95, 95, 98, 117, 105, 108, 116, 105, 110, 115, 95, 95]⟩, (.str ⟨#[95, 95, 98, 117, 105, 108, 116, 105, 110, 115, 95, 95]⟩ 171), (.ref 4)⟩, ⟨PySem.PyData.keyHash w.params ⟨#[95, 95, 102, 105, 108, 101, 95, 95]⟩, (.str ⟨#[95, 95, 102, 105, 108, 101, 95, 95]⟩ 173), (.str ⟨#[47, 99, 108, 97, 105, 109, 47, 99, 117, 116, 46, 112, 121]⟩ 172)⟩, ⟨PySem.PyData.keyHash w.params ⟨#[95, 95, 99, 97, 99, 104, 101, 100, 95, 95]⟩, (.str ⟨#[95, 95, 99, 97, 99, 104, 101, 100, 95, 95]⟩ 174), .none⟩, ⟨PySem.PyData.keyHash w.params ⟨#[95, 119, 97, 108, 108]⟩, (.str ⟨#[95, 119, 97, 108, 108]⟩ 193), (.ref 21)⟩, ⟨PySem.PyData.keyHash w.params ⟨#[69, 118, 101, 114, 121, 110, 97, 109, 101, 69, 114, 114, 111, 114]⟩, (.str ⟨#[69, 118, 101, 114, 121, 110, 97, 109, 101, 69, 114, 114, 111, 114]⟩ 213), (.ref 31)⟩, ⟨PySem.PyData.keyHash w.params ⟨#[66, 97, 100, 80, 114, 111, 103, 114, 97, 109]⟩, (.str ⟨#[66, 97, 100, 80, 114, 111, 103, 114, 97, 109]⟩ 240), (.ref 53)⟩, ⟨PySem.PyData.keyHash w.params ⟨#[66, 97, 100, 84, 101, 120, 116]⟩, (.str ⟨#[66, 97, 100, 84, 101, 120, 116]⟩ 267), (.ref 74)⟩, ⟨PySem.PyData.keyHash w.params ⟨#[66, 97, 100, 86, 97, 108, 117, 101]⟩, (.str ⟨#[66, 97, 100, 86, 97, 108, 117, 101]⟩ 294), (.ref 95)⟩, ⟨PySem.PyData.keyHash w.params ⟨#[79, 116, 104, 101, 114, 83, 116, 111, 99, 107]⟩, (.str ⟨#[79, 116, 104, 101, 114, 83, 116, 111, 99, 107]⟩ 323), (.ref 116)⟩, ⟨PySem.PyData.keyHash w.params ⟨#[84, 111, 111, 77, 97, 110, 121]⟩, (.str ⟨#[84, 111, 111, 77, 97, 110, 121]⟩ 350), (.ref 137)⟩, ⟨PySem.PyData.keyHash w.params ⟨#[78, 111, 86, 97, 114, 105, 97, 98, 108, 101]⟩, (.str ⟨#[78, 111, 86, 97, 114, 105, 97, 98, 108, 101]⟩ 377), (.ref 158)⟩, ⟨PySem.PyData.keyHash w.params ⟨#[78, 111, 116, 69, 120, 97, 99, 116]⟩, (.str ⟨#[78, 111, 116, 69, 120, 97, 99, 116]⟩ 404), (.ref 179)⟩, ⟨PySem.PyData.keyHash w.params ⟨#[69, 109, 112, 116, 121, 83, 112, 97, 110]⟩, (.str ⟨#[69, 109, 112, 116, 121, 83, 112, 97, 110]⟩ 420), (.ref 191)⟩, ⟨PySem.PyData.keyHash w.params ⟨#[66, 97, 100, 78, 97, 109, 101]⟩, (.str ⟨#[66, 97, 100, 78, 97, 109, 101]⟩ 447), (.ref 212)⟩, ⟨PySem.PyData.keyHash w.params ⟨#[66, 97, 100, 82, 117, 108, 101]⟩, (.str ⟨#[66, 97, 100, 82, 117, 108, 101]⟩ 476), (.ref 233)⟩, ⟨PySem.PyData.keyHash w.params ⟨#[82, 101, 115, 116, 108, 101, 115, 115]⟩, (.str ⟨#[82, 101, 115, 116, 108, 101, 115, 115]⟩ 507), (.ref 254)⟩, ⟨PySem.PyData.keyHash w.params ⟨#[66, 114, 111, 107, 101, 110]⟩, (.str ⟨#[66, 114, 111, 107, 101, 110]⟩ 536), (.ref 275)⟩, ⟨PySem.PyData.keyHash w.params ⟨#[83, 101, 97, 109]⟩, (.str ⟨#[83, 101, 97, 109]⟩ 563), (.ref 296)⟩, ⟨PySem.PyData.keyHash w.params ⟨#[111, 99, 99, 117, 114, 114, 105, 110, 103]⟩, (.str ⟨#[111, 99, 99, 117, 114, 114, 105, 110, 103]⟩ 575), (.ref 305)⟩, ⟨PySem.PyData.keyHash w.params ⟨#[97, 115, 99, 101, 110, 100, 105, 110, 103]⟩, (.str ⟨#[97, 115, 99, 101, 110, 100, 105, 110, 103]⟩ 581), (.ref 310)⟩, ⟨PySem.PyData.keyHash w.params ⟨#[102, 114, 101, 101]⟩, (.str ⟨#[102, 114, 101, 101]⟩ 588), (.ref 317)⟩, ⟨PySem.PyData.keyHash w.params ⟨#[103, 114, 101, 97, 116, 101, 115, 116]⟩, (.str ⟨#[103, 114, 101, 97, 116, 101, 115, 116]⟩ 595), (.ref 324)⟩, ⟨PySem.PyData.keyHash w.params ⟨#[112, 117, 116]⟩, (.str ⟨#[112, 117, 116]⟩ 601), (.ref 329)⟩, ⟨PySem.PyData.keyHash w.params ⟨#[102, 114, 101, 115, 104]⟩, (.str ⟨#[102, 114, 101, 115, 104]⟩ 609), (.ref 336)⟩, ⟨PySem.PyData.keyHash w.params ⟨#[119, 97, 121, 115]⟩, (.str ⟨#[119, 97, 121, 115]⟩ 615), (.ref 341)⟩, ⟨PySem.PyData.keyHash w.params ⟨#[108, 111, 110, 103, 101, 114, 95, 119, 97, 121, 115]⟩, (.str ⟨#[108, 111, 110, 103, 101, 114, 95, 119, 97, 121, 115]⟩ 621), (.ref 346)⟩, ⟨PySem.PyData.keyHash w.params ⟨#[119, 105, 100, 101, 110, 101, 100]⟩, (.str ⟨#[119, 105, 100, 101, 110, 101, 100]⟩ 627), (.ref 351)⟩, ⟨PySem.PyData.keyHash w.params ⟨#[101, 110, 111, 117, 103, 104]⟩, (.str ⟨#[101, 110, 111, 117, 103, 104]⟩ 636), (.ref 358)⟩, ⟨PySem.PyData.keyHash w.params ⟨#[115, 116, 97, 110, 100, 115]⟩, (.str ⟨#[115, 116, 97, 110, 100, 115]⟩ 646), (.ref 365)⟩, ⟨PySem.PyData.keyHash w.params ⟨#[102, 105, 108, 108, 105, 110, 103, 115]⟩, (.str ⟨#[102, 105, 108, 108, 105, 110, 103, 115]⟩ 652), (.ref 370)⟩, ⟨PySem.PyData.keyHash w.params ⟨#[116, 111, 108, 100, 95, 116, 101, 114, 109, 115]⟩, (.str ⟨#[116, 111, 108, 100, 95, 116, 101, 114, 109, 115]⟩ 658), (.ref 375)⟩, ⟨PySem.PyData.keyHash w.params ⟨#[117, 110, 108, 105, 107, 101]⟩, (.str ⟨#[117, 110, 108, 105, 107, 101]⟩ 668), (.ref 382)⟩, ⟨PySem.PyData.keyHash w.params ⟨#[101, 113, 117, 97, 108, 95, 108, 105, 115, 116, 115]⟩, (.str ⟨#[101, 113, 117, 97, 108, 95, 108, 105, 115, 116, 115]⟩ 674), (.ref 387)⟩, ⟨PySem.PyData.keyHash w.params ⟨#[105, 115, 95, 102, 108, 97, 116]⟩, (.str ⟨#[105, 115, 95, 102, 108, 97, 116]⟩ 680), (.ref 392)⟩, ⟨PySem.PyData.keyHash w.params ⟨#[102, 108, 97, 116, 95, 114, 111, 119, 115]⟩, (.str ⟨#[102, 108, 97, 116, 95, 114, 111, 119, 115]⟩ 686), (.ref 397)⟩, ⟨PySem.PyData.keyHash w.params ⟨#[115, 97, 109, 101]⟩, (.str ⟨#[115, 97, 109, 101]⟩ 699), (.ref 404)⟩, ⟨PySem.PyData.keyHash w.params ⟨#[109, 101, 109, 98, 101, 114]⟩, (.str ⟨#[109, 101, 109, 98, 101, 114]⟩ 705), (.ref 409)⟩, ⟨PySem.PyData.keyHash w.params ⟨#[119, 105, 116, 104, 105, 110]⟩, (.str ⟨#[119, 105, 116, 104, 105, 110]⟩ 711), (.ref 414)⟩, ⟨PySem.PyData.keyHash w.params ⟨#[104, 97, 115, 95, 115, 101, 116]⟩, (.str ⟨#[104, 97, 115, 95, 115, 101, 116]⟩ 719), (.ref 421)⟩, ⟨PySem.PyData.keyHash w.params ⟨#[114, 111, 119, 95, 111, 118, 101, 114]⟩, (.str ⟨#[114, 111, 119, 95, 111, 118, 101, 114]⟩ 725), (.ref 426)⟩, ⟨PySem.PyData.keyHash w.params ⟨#[98, 117, 105, 108, 116]⟩, (.str ⟨#[98, 117, 105, 108, 116]⟩ 731), (.ref 431)⟩, ⟨PySem.PyData.keyHash w.params ⟨#[115, 104, 105, 102, 116, 101, 100]⟩, (.str ⟨#[115, 104, 105, 102, 116, 101, 100]⟩ 737), (.ref 436)⟩, ⟨PySem.PyData.keyHash w.params ⟨#[69, 77, 80, 84, 89]⟩, (.str ⟨#[69, 77, 80, 84, 89]⟩ 739), (.ref 439)⟩, ⟨PySem.PyData.keyHash w.params ⟨#[115, 116, 111, 99, 107]⟩, (.str ⟨#[115, 116, 111, 99, 107]⟩ 745), (.ref 444)⟩, ⟨PySem.PyData.keyHash w.params ⟨#[82, 69, 83, 69, 82, 86, 69, 68]⟩, (.str ⟨#[82, 69, 83, 69, 82, 86, 69, 68]⟩ 764), (.ref 445)⟩, ⟨PySem.PyData.keyHash w.params ⟨#[68, 69, 69, 80, 69, 83, 84, 95, 116, 114, 101, 101, 115]⟩, (.str ⟨#[68, 69, 69, 80, 69, 83, 84, 95, 116, 114, 101, 101, 115]⟩ 766), (.int 40 765)⟩, ⟨PySem.PyData.keyHash w.params ⟨#[76, 69, 86, 69, 76, 83]⟩, (.str ⟨#[76, 69, 86, 69, 76, 83]⟩ 768), (.int 10 767)⟩, ⟨PySem.PyData.keyHash w.params ⟨#[71, 82, 69, 65, 84, 69, 83, 84]⟩, (.str ⟨#[71, 82, 69, 65, 84, 69, 83, 84]⟩ 772), (.int 1000000000000000000000000000000000000000000000000000000000000 771)⟩, ⟨PySem.PyData.keyHash w.params ⟨#[83, 73, 71, 78, 83]⟩, (.str ⟨#[83, 73, 71, 78, 83]⟩ 779), (.ref 446)⟩, ⟨PySem.PyData.keyHash w.params ⟨#[80, 76, 65, 73, 78]⟩, (.str ⟨#[80, 76, 65, 73, 78]⟩ 848), (.ref 447)⟩, ⟨PySem.PyData.keyHash w.params ⟨#[105, 115, 95, 119, 111, 114, 100]⟩, (.str ⟨#[105, 115, 95, 119, 111, 114, 100]⟩ 854), (.ref 469)⟩, ⟨PySem.PyData.keyHash w.params ⟨#[105, 115, 95, 110, 97, 109, 101]⟩, (.str ⟨#[105, 115, 95, 110, 97, 109, 101]⟩ 861), (.ref 476)⟩, ⟨PySem.PyData.keyHash w.params ⟨#[112, 97, 116, 116, 101, 114, 110, 95, 118, 97, 114, 105, 97, 98, 108, 101, 115]⟩, (.str ⟨#[112, 97, 116, 116, 101, 114, 110, 95, 118, 97, 114, 105, 97, 98, 108, 101, 115]⟩ 868), (.ref 483)⟩, ⟨PySem.PyData.keyHash w.params ⟨#[103, 111, 111, 100, 95, 112, 97, 116, 116, 101, 114, 110]⟩, (.str ⟨#[103, 111, 111, 100, 95, 112, 97, 116, 116, 101, 114, 110]⟩ 874), (.ref 488)⟩, ⟨PySem.PyData.keyHash w.params ⟨#[103, 111, 111, 100]⟩, (.str ⟨#[103, 111, 111, 100]⟩ 881), (.ref 494)⟩, ⟨PySem.PyData.keyHash w.params ⟨#[103, 111, 111, 100, 95, 101, 120, 112, 114, 101, 115, 115, 105, 111, 110]⟩, (.str ⟨#[103, 111, 111, 100, 95, 101, 120, 112, 114, 101, 115, 115, 105, 111, 110]⟩ 887), (.ref 499)⟩, ⟨PySem.PyData.keyHash w.params ⟨#[103, 111, 111, 100, 95, 103, 97, 116, 104, 101, 114]⟩, (.str ⟨#[103, 111, 111, 100, 95, 103, 97, 116, 104, 101, 114]⟩ 898), (.ref 506)⟩, ⟨PySem.PyData.keyHash w.params ⟨#[103, 111, 111, 100, 95, 116, 101, 115, 116]⟩, (.str ⟨#[103, 111, 111, 100, 95, 116, 101, 115, 116]⟩ 908), (.ref 513)⟩, ⟨PySem.PyData.keyHash w.params ⟨#[103, 111, 111, 100, 95, 104, 101, 97, 100]⟩, (.str ⟨#[103, 111, 111, 100, 95, 104, 101, 97, 100]⟩ 918), (.ref 520)⟩, ⟨PySem.PyData.keyHash w.params ⟨#[119, 114, 111, 110, 103, 95, 112, 108, 97, 99, 101]⟩, (.str ⟨#[119, 114, 111, 110, 103, 95, 112, 108, 97, 99, 101]⟩ 935), (.ref 529)⟩, ⟨PySem.PyData.keyHash w.params ⟨#[102, 114, 101, 101, 95, 118, 97, 114, 105, 97, 98, 108, 101, 115]⟩, (.str ⟨#[102, 114, 101, 101, 95, 118, 97, 114, 105, 97, 98, 108, 101, 115]⟩ 947), (.ref 538)⟩, ⟨PySem.PyData.keyHash w.params ⟨#[106, 111, 105, 110, 101, 100]⟩, (.str ⟨#[106, 111, 105, 110, 101, 100]⟩ 953), (.ref 543)⟩, ⟨PySem.PyData.keyHash w.params ⟨#[115, 116, 97, 116, 101, 95, 118, 97, 114, 105, 97, 98, 108, 101, 115]⟩, (.str ⟨#[115, 116, 97, 116, 101, 95, 118, 97, 114, 105, 97, 98, 108, 101, 115]⟩ 963), (.ref 550)⟩, ⟨PySem.PyData.keyHash w.params ⟨#[86, 65, 76, 85, 69, 95, 83, 73, 71, 78, 83]⟩, (.str ⟨#[86, 65, 76, 85, 69, 95, 83, 73, 71, 78, 83]⟩ 978), (.ref 551)⟩, ⟨PySem.PyData.keyHash w.params ⟨#[84, 69, 83, 84, 95, 83, 73, 71, 78, 83]⟩, (.str ⟨#[84, 69, 83, 84, 95, 83, 73, 71, 78, 83]⟩ 988), (.ref 552)⟩, ⟨PySem.PyData.keyHash w.params ⟨#[78, 85, 77, 66, 69, 82, 95, 83, 73, 71, 78, 83]⟩, (.str ⟨#[78, 85, 77, 66, 69, 82, 95, 83, 73, 71, 78, 83]⟩ 998), (.ref 553)⟩, ⟨PySem.PyData.keyHash w.params ⟨#[67, 79, 77, 80, 65, 82, 69]⟩, (.str ⟨#[67, 79, 77, 80, 65, 82, 69]⟩ 1005), (.ref 554)⟩, ⟨PySem.PyData.keyHash w.params ⟨#[68, 69, 69, 80, 69, 83, 84, 95, 114, 101, 97, 100, 105, 110, 103]⟩, (.str ⟨#[68, 69, 69, 80, 69, 83, 84, 95, 114, 101, 97, 100, 105, 110, 103]⟩ 1007), (.int 40 1006)⟩, ⟨PySem.PyData.keyHash w.params ⟨#[85, 110, 114, 101, 97, 100]⟩, (.str ⟨#[85, 110, 114, 101, 97, 100]⟩ 1038), (.ref 573)⟩, ⟨PySem.PyData.keyHash w.params ⟨#[82, 101, 97, 100, 101, 114]⟩, (.str ⟨#[82, 101, 97, 100, 101, 114]⟩ 1193), (.ref 677)⟩, ⟨PySem.PyData.keyHash w.params ⟨#[98, 114, 97, 99, 107, 101, 116, 101, 100]⟩, (.str ⟨#[98, 114, 97, 99, 107, 101, 116, 101, 100]⟩ 1204), (.ref 688)⟩, ⟨PySem.PyData.keyHash w.params ⟨#[70, 73, 82, 83, 84]⟩, (.str ⟨#[70, 73, 82, 83, 84]⟩ 1208), (.str ⟨#[107, 110, 111, 119, 110]⟩ 1207)⟩, ⟨PySem.PyData.keyHash w.params ⟨#[65, 83, 83, 73, 71, 78, 95, 108, 105, 110, 101, 115]⟩, (.str ⟨#[65, 83, 83, 73, 71, 78, 95, 108, 105, 110, 101, 115]⟩ 1215), (.ref 692)⟩, ⟨PySem.PyData.keyHash w.params ⟨#[114, 101, 97, 100, 95, 108, 105, 110, 101, 115]⟩, (.str ⟨#[114, 101, 97, 100, 95, 108, 105, 110, 101, 115]⟩ 1226), (.ref 699)⟩, ⟨PySem.PyData.keyHash w.params ⟨#[114, 101, 97, 100, 95, 107, 110, 111, 119, 110]⟩, (.str ⟨#[114, 101, 97, 100, 95, 107, 110, 111, 119, 110]⟩ 1232), (.ref 704)⟩, ⟨PySem.PyData.keyHash w.params ⟨#[105, 110, 100, 101, 110, 116, 97, 116, 105, 111, 110]⟩, (.str ⟨#[105, 110, 100, 101, 110, 116, 97, 116, 105, 111, 110]⟩ 1239), (.ref 711)⟩, ⟨PySem.PyData.keyHash w.params ⟨#[114, 101, 97, 100, 95, 98, 108, 111, 99, 107]⟩, (.str ⟨#[114, 101, 97, 100, 95, 98, 108, 111, 99, 107]⟩ 1251), (.ref 718)⟩, ⟨PySem.PyData.keyHash w.params ⟨#[114, 101, 97, 100, 95, 115, 116, 97, 116, 101, 109, 101, 110, 116]⟩, (.str ⟨#[114, 101, 97, 100, 95, 115, 116, 97, 116, 101, 109, 101, 110, 116]⟩ 1267), (.ref 725)⟩, ⟨PySem.PyData.keyHash w.params ⟨#[114, 101, 97, 100, 95, 105, 110, 110, 101, 114]⟩, (.str ⟨#[114, 101, 97, 100, 95, 105, 110, 110, 101, 114]⟩ 1278), (.ref 732)⟩, ⟨PySem.PyData.keyHash w.params ⟨#[114, 101, 97, 100, 95, 104, 101, 97, 100]⟩, (.str ⟨#[114, 101, 97, 100, 95, 104, 101, 97, 100]⟩ 1294), (.ref 739)⟩, ⟨PySem.PyData.keyHash w.params ⟨#[104, 101, 97, 100, 95, 111, 102]⟩, (.str ⟨#[104, 101, 97, 100, 95, 111, 102]⟩ 1305), (.ref 746)⟩, ⟨PySem.PyData.keyHash w.params ⟨#[83, 73, 71, 78, 95, 79, 70]⟩, (.str ⟨#[83, 73, 71, 78, 95, 79, 70]⟩ 1344), (.ref 747)⟩, ⟨PySem.PyData.keyHash w.params ⟨#[65, 83, 83, 73, 71, 78, 95, 119, 114, 105, 116, 105, 110, 103]⟩, (.str ⟨#[65, 83, 83, 73, 71, 78, 95, 119, 114, 105, 116, 105, 110, 103]⟩ 1354), (.ref 748)⟩] 89), #[]⟩, boot_o_4 w.params, boot_o_5 w.params, boot_o_6 w.params, boot_o_7 w.params, boot_o_8 w.params, boot_o_9 w.params, boot_o_10 w.params, ⟨(.type "tuple"), none, (.seq #[] 0), #[]⟩, ⟨.none, none, (.fields #[(.int 1 0), (.int 0 0), (.ref 20), (.int 5 0), (.int 0 0), (.ref 27), (.int 7 0), (.int 0 0), (.ref 41), (.int 12 0), (.int 0 0), (.ref 62), (.int 17 0), (.int 0 0), (.ref 83), (.int 22 0), (.int 0 0), (.ref 104), (.int 28 0), (.int 0 0), (.ref 125), (.int 33 0), (.int 0 0), (.ref 146), (.int 38 0), (.int 0 0), (.ref 167), (.int 43 0), (.int 0 0), (.ref 187), (.int 45 0), (.int 0 0), (.ref 200), (.int 50 0), (.int 0 0), (.ref 221), (.int 56 0), (.int 0 0), (.ref 242), (.int 63 0), (.int 0 0), (.ref 263), (.int 69 0), (.int 0 0), (.ref 284), (.int 75 0), (.int 0 0), (.ref 304), (.int 87 0), (.int 0 0), (.ref 309), (.int 89 0), (.int 0 0), (.ref 316), (.int 91 0), (.int 0 0), (.ref 323), (.int 93 0), (.int 0 0), (.ref 328), (.int 107 0), (.int 0 0), (.ref 335), (.int 109 0), (.int 0 0), (.ref 340), (.int 114 0), (.int 0 0), (.ref 345), (.int 117 0), (.int 0 0), (.ref 350), (.int 124 0), (.int 0 0), (.ref 357), (.int 130 0), (.int 0 0), (.ref 364), (.int 132 0), (.int 0 0), (.ref 369), (.int 136 0), (.int 0 0), (.ref 374), (.int 141 0), (.int 0 0), (.ref 381), (.int 155 0), (.int 0 0), (.ref 386), (.int 157 0), (.int 0 0), (.ref 391), (.int 159 0), (.int 0 0), (.ref 396), (.int 161 0), (.int 0 0), (.ref 403), (.int 175 0), (.int 0 0), (.ref 408), (.int 187 0), (.int 0 0), (.ref 413), (.int 198 0), (.int 0 0), (.ref 420), (.int 204 0), (.int 0 0), (.ref 425), (.int 208 0), (.int 0 0), (.ref 430), (.int 223 0), (.int 0 0), (.ref 435), (.int 235 0), (.int 0 0), (.ref 443), (.int 244 0), (.int 0 0), (.ref 468), (.int 248 0), (.int 0 0), (.ref 475), (.int 250 0), (.int 0 0), (.ref 482), (.int 254 0), (.int 0 0), (.ref 487), (.int 263 0), (.int 0 0), (.ref 493), (.int 279 0), (.int 0 0), (.ref 498), (.int 292 0), (.int 0 0), (.ref 505), (.int 302 0), (.int 0 0), (.ref 512), (.int 312 0), (.int 0 0), (.ref 519), (.int 326 0), (.int 0 0), (.ref 528), (.int 337 0), (.int 0 0), (.ref 537), (.int 353 0), (.int 0 0), (.ref 542), (.int 355 0), (.int 0 0), (.ref 549), (.int 372 0), (.int 0 0), (.ref 561), (.int 377 0), (.int 0 0), (.ref 582), (.int 527 0), (.int 0 0), (.ref 687), (.int 542 0), (.int 0 0), (.ref 698), (.int 551 0), (.int 0 0), (.ref 703), (.int 560 0), (.int 0 0), (.ref 710), (.int 562 0), (.int 0 0), (.ref 717), (.int 568 0), (.int 0 0), (.ref 724), (.int 581 0), (.int 0 0), (.ref 731), (.int 587 0), (.int 0 0), (.ref 738), (.int 600 0), (.int 0 0), (.ref 745)]), #[]⟩, ⟨(.type "code"), none, (.fields #[(.str ⟨#[60, 109, 111, 100, 117, 108, 101, 62]⟩ 182), (.str ⟨#[60, 109, 111, 100, 117, 108, 101, 62]⟩ 183), (.str ⟨#[47, 99, 108, 97, 105, 109, 47, 99, 117, 116, 46, 112, 121]⟩ 184), (.int 1 0), (.int 0 0), (.int 0 0), (.int 0 0), (.int 0 0), (.ref 11), (.bool false), (.int 181 0), (.ref 12), .none, .none, .none, .none, (.int 185 0), (.int 1 0), (.str ⟨#[47, 99, 108, 97, 105, 109, 47, 99, 117, 116, 46, 112, 121]⟩ 186)]), #[]⟩, ⟨(.type "frame"), none, .plain, #[(some (.ref 13)), (some (.ref 3)), (some (.ref 3)), none, (some (.str ⟨#[95, 95, 109, 97, 105, 110, 95, 95]⟩ 164)), none, (some (.ref 0))]⟩]
def O7 : List Nat := [29, 30, 31, 32, 38, 49, 50, 51, 52, 53, 197, 208, 209, 210, 211, 212, 281, 292, 293, 294, 295, 296, 437, 438, 439, 443, 444, 445, 468, 469, 475, 476, 521, 522, 528, 529, 542, 543, 549, 550]
def A7 : List Nat := []
def G7 (p : Program) (w : World) : List Obj := []
theorem grp7f (w : World) (os : OsState) (g : Nat → Obj) : grpO (HandSHeadRun.stepQ (HandSHeadRun.denQ HandSHeadRun.tabQ) PySem.W.Fast.tw10313853756172224601 (w.withFollow "special-get-raises" false)) 246 (O7 ++ A7) (boot_heap (w.withFollow "special-get-raises" false).params).life boot_drawn 1308 os (F6 (w.withFollow "special-get-raises" false) ++ (List.range 732).map fun i => g (15 + i)) (piecesOf (((((((((((((((PySem.W.Fast.tw10313853756172224601).main.body).drop 16)).drop 33)).drop 1)).drop 14)).drop 3)).drop 17)).take 2) (envA PySem.W.Fast.tw10313853756172224601 13 14) (codeA PySem.W.Fast.tw10313853756172224601 13 14) ⟨614, 0, 614, 8⟩ [topFrame ⟨0, 0, 0, 0⟩]) =
    some (.next, (codeA PySem.W.Fast.tw10313853756172224601 13 14), ⟨616, 0, 616, 14⟩, 749, (boot_heap (w.withFollow "special-get-raises" false).params).life, 0, boot_drawn, 1355, os, (F7 (w.withFollow "special-get-raises" false)).map some, (O7.map g ++ G7 PySem.W.Fast.tw10313853756172224601 (w.withFollow "special-get-raises" false)).map some) := by kernel_rfl
theorem grp7t (w : World) (os : OsState) (g : Nat → Obj) : grpO (HandSHeadRun.stepQ (HandSHeadRun.denQ HandSHeadRun.tabQ) PySem.W.Fast.tw10313853756172224601 (w.withFollow "special-get-raises" true)) 246 (O7 ++ A7) (boot_heap (w.withFollow "special-get-raises" true).params).life boot_drawn 1308 os (F6 (w.withFollow "special-get-raises" true) ++ (List.range 732).map fun i => g (15 + i)) (piecesOf (((((((((((((((PySem.W.Fast.tw10313853756172224601).main.body).drop 16)).drop 33)).drop 1)).drop 14)).drop 3)).drop 17)).take 2) (envA PySem.W.Fast.tw10313853756172224601 13 14) (codeA PySem.W.Fast.tw10313853756172224601 13 14) ⟨614, 0, 614, 8⟩ [topFrame ⟨0, 0, 0, 0⟩]) =
    some (.next, (codeA PySem.W.Fast.tw10313853756172224601 13 14), ⟨616, 0, 616, 14⟩, 749, (boot_heap (w.withFollow "special-get-raises" true).params).life, 0, boot_drawn, 1355, os, (F7 (w.withFollow "special-get-raises" true)).map some, (O7.map g ++ G7 PySem.W.Fast.tw10313853756172224601 (w.withFollow "special-get-raises" true)).map some) := by kernel_rfl
theorem grp7 (w : World) : ∀ (os : OsState) (g : Nat → Obj), grpO (HandSHeadRun.stepQ (HandSHeadRun.denQ HandSHeadRun.tabQ) PySem.W.Fast.tw10313853756172224601 w) 246 (O7 ++ A7) (boot_heap w.params).life boot_drawn 1308 os (F6 w ++ (List.range 732).map fun i => g (15 + i)) (piecesOf (((((((((((((((PySem.W.Fast.tw10313853756172224601).main.body).drop 16)).drop 33)).drop 1)).drop 14)).drop 3)).drop 17)).take 2) (envA PySem.W.Fast.tw10313853756172224601 13 14) (codeA PySem.W.Fast.tw10313853756172224601 13 14) ⟨614, 0, 614, 8⟩ [topFrame ⟨0, 0, 0, 0⟩]) =
    some (.next, (codeA PySem.W.Fast.tw10313853756172224601 13 14), ⟨616, 0, 616, 14⟩, 749, (boot_heap w.params).life, 0, boot_drawn, 1355, os, (F7 w).map some, (O7.map g ++ G7 PySem.W.Fast.tw10313853756172224601 w).map some) := byRow2 (P := fun w => ∀ (os : OsState) (g : Nat → Obj), grpO (HandSHeadRun.stepQ (HandSHeadRun.denQ HandSHeadRun.tabQ) PySem.W.Fast.tw10313853756172224601 w) 246 (O7 ++ A7) (boot_heap w.params).life boot_drawn 1308 os (F6 w ++ (List.range 732).map fun i => g (15 + i)) (piecesOf (((((((((((((((PySem.W.Fast.tw10313853756172224601).main.body).drop 16)).drop 33)).drop 1)).drop 14)).drop 3)).drop 17)).take 2) (envA PySem.W.Fast.tw10313853756172224601 13 14) (codeA PySem.W.Fast.tw10313853756172224601 13 14) ⟨614, 0, 614, 8⟩ [topFrame ⟨0, 0, 0, 0⟩]) =
    some (.next, (codeA PySem.W.Fast.tw10313853756172224601 13 14), ⟨616, 0, 616, 14⟩, 749, (boot_heap w.params).life, 0, boot_drawn, 1355, os, (F7 w).map some, (O7.map g ++ G7 PySem.W.Fast.tw10313853756172224601 w).map some)) "special-get-raises" (fun w => grp7f w) (fun w => grp7t w) w
def F8 (w : World) : List Obj := [boot_o_0 w.params, boot_o_1 w.params, ⟨.none, none, (.dict #[⟨PySem.PyData.keyHash w.params ⟨#[116, 121, 112, 101, 46, 95, 95, 115, 117, 98, 99, 108, 97, 115, 115, 101, 115, 95, 95, 46, 69, 120, 99, 101, 112, 116, 105, 111, 110, 46, 48]⟩, (.str ⟨#[116, 121, 112, 101, 46, 95, 95, 115, 117, 98, 99, 108, 97, 115, 115, 101, 115, 95, 95, 46, 69, 120, 99, 101, 112, 116, 105, 111, 110, 46, 48]⟩ 1035), (.int 573 0)⟩, ⟨PySem.PyData.keyHash w.params ⟨#[116, 121, 112, 101, 46, 95, 95, 115, 117, 98, 99, 108, 97, 115, 115, 101, 115, 95, 95, 46, 69, 120, 99, 101, 112, 116, 105, 111, 110, 46, 110]⟩, (.str ⟨#[116, 121, 112, 101, 46, 95, 95, 115, 117, 98, 99, 108, 97, 115, 115, 101, 115, 95, 95, 46, 69, 120, 99, 101, 112, 116, 105, 111, 110, 46, 110]⟩ 1036), (.int 1 0)⟩] 2), #[]⟩, ⟨(.type "dict"), none, (.dict #[⟨PySem.PyData.keyHash w.params ⟨#[95, 95, 110, 97, 109, 101, 95, 95]⟩, (.str ⟨#[95, 95, 110, 97, 109, 101, 95, 95]⟩ 165), (.str ⟨#[101, 118, 101, 114, 121, 110, 97, 109, 101, 46, 115, 105, 122, 101, 115]⟩ 1500)⟩, ⟨PySem.PyData.keyHash w.params ⟨#[95, 95, 100, 111, 99, 95, 95]⟩, (.str ⟨#[95, 95, 100, 111, 99, 95, 95]⟩ 166), .none⟩, ⟨PySem.PyData.keyHash w.params ⟨#[95, 95, 112, 97, 99, 107, 97, 103, 101, 95, 95]⟩, (.str ⟨#[95, 95, 112, 97, 99, 107, 97, 103, 101, 95, 95]⟩ 167), .none⟩, ⟨PySem.PyData.keyHash w.params ⟨#[95, 95, 108, 111, 97, 100, 101, 114, 95, 95]⟩, (.str ⟨#[95, 95, 108, 111, 97, 100, 101, 114, 95, 95]⟩ 168), (.builtin "__main__.__loader__#opaque")⟩, ⟨PySem.PyData.keyHash w.params ⟨#[95, 95, 115, 112, 101, 99, 95, 95]⟩, (.str ⟨#[95, 95, 115, 112, 101, 99, 95, 95]⟩ 169), .none⟩, ⟨PySem.PyData.keyHash w.params ⟨#[95, 95, 97, 110, 110, 111, 116, 97, 116, 105, 111, 110, 115, 95, 95]⟩, (.str ⟨#[95, 95, 97, 110, 110, 111, 116, 97, 116, 105, 111, 110, 115, 95, 95]⟩ 170), (.ref 6)⟩, ⟨PySem.PyData.keyHash w.params ⟨#[95, 95, 98, 117, 105, 108, 116, 105, 110, 115, 95, 95]⟩, (.str ⟨#[95, 95, 98, 117, 105, 108, 116, 105, 110, 115, 95, 95]⟩ 171), (.ref 4)⟩, ⟨PySem.PyData.keyHash w.params ⟨#[95, 95, 102, 105, 108, 101, 95, 95]⟩, (.str ⟨#[95, 95, 102, 105, 108, 101, 95, 95]⟩ 173), (.str ⟨#[47, 99, 108, 97, 105, 109, 47, 99, 117, 116, 46, 112, 121]⟩ 172)⟩, ⟨PySem.PyData.keyHash w.params ⟨#[95, 95, 99, 97, 99, 104, 101, 100, 95, 95]⟩, (.str ⟨#[95, 95, 99, 97, 99, 104, 101, 100, 95, 95]⟩ 174), .none⟩, ⟨PySem.PyData.keyHash w.params ⟨#[95, 119, 97, 108, 108]⟩, (.str ⟨#[95, 119, 97, 108, 108]⟩ 193), (.ref 21)⟩, ⟨PySem.PyData.keyHash w.params ⟨#[69, 118, 101, 114, 121, 110, 97, 109, 101, 69, 114, 114, 111, 114]⟩, (.str ⟨#[69, 118, 101, 114, 121, 110, 97, 109, 101, 69, 114, 114, 111, 114]⟩ 213), (.ref 31)⟩, ⟨PySem.PyData.keyHash w.params ⟨#[66, 97, 100, 80, 114, 111, 103, 114, 97, 109]⟩, (.str ⟨#[66, 97, 100, 80, 114, 111, 103, 114, 97, 109]⟩ 240), (.ref 53)⟩, ⟨PySem.PyData.keyHash w.params ⟨#[66, 97, 100, 84, 101, 120, 116]⟩, (.str ⟨#[66, 97, 100, 84, 101, 120, 116]⟩ 267), (.ref 74)⟩, ⟨PySem.PyData.keyHash w.params ⟨#[66, 97, 100, 86, 97, 108, 117, 101]⟩, (.str ⟨#[66, 97, 100, 86, 97, 108, 117, 101]⟩ 294), (.ref 95)⟩, ⟨PySem.PyData.keyHash w.params ⟨#[79, 116, 104, 101, 114, 83, 116, 111, 99, 107]⟩, (.str ⟨#[79, 116, 104, 101, 114, 83, 116, 111, 99, 107]⟩ 323), (.ref 116)⟩, ⟨PySem.PyData.keyHash w.params ⟨#[84, 111, 111, 77, 97, 110, 121]⟩, (.str ⟨#[84, 111, 111, 77, 97, 110, 121]⟩ 350), (.ref 137)⟩, ⟨PySem.PyData.keyHash w.params ⟨#[78, 111, 86, 97, 114, 105, 97, 98, 108, 101]⟩, (.str ⟨#[78, 111, 86, 97, 114, 105, 97, 98, 108, 101]⟩ 377), (.ref 158)⟩, ⟨PySem.PyData.keyHash w.params ⟨#[78, 111, 116, 69, 120, 97, 99, 116]⟩, (.str ⟨#[78, 111, 116, 69, 120, 97, 99, 116]⟩ 404), (.ref 179)⟩, ⟨PySem.PyData.keyHash w.params ⟨#[69, 109, 112, 116, 121, 83, 112, 97, 110]⟩, (.str ⟨#[69, 109, 112, 116, 121, 83, 112, 97, 110]⟩ 420), (.ref 191)⟩, ⟨PySem.PyData.keyHash w.params ⟨#[66, 97, 100, 78, 97, 109, 101]⟩, (.str ⟨#[66, 97, 100, 78, 97, 109, 101]⟩ 447), (.ref 212)⟩, ⟨PySem.PyData.keyHash w.params ⟨#[66, 97, 100, 82, 117, 108, 101]⟩, (.str ⟨#[66, 97, 100, 82, 117, 108, 101]⟩ 476), (.ref 233)⟩, ⟨PySem.PyData.keyHash w.params ⟨#[82, 101, 115, 116, 108, 101, 115, 115]⟩, (.str ⟨#[82, 101, 115, 116, 108, 101, 115, 115]⟩ 507), (.ref 254)⟩, ⟨PySem.PyData.keyHash w.params ⟨#[66, 114, 111, 107, 101, 110]⟩, (.str ⟨#[66, 114, 111, 107, 101, 110]⟩ 536), (.ref 275)⟩, ⟨PySem.PyData.keyHash w.params ⟨#[83, 101, 97, 109]⟩, (.str ⟨#[83, 101, 97, 109]⟩ 563), (.ref 296)⟩, ⟨PySem.PyData.keyHash w.params ⟨#[111, 99, 99, 117, 114, 114, 105, 110, 103]⟩, (.str ⟨#[111, 99, 99, 117, 114, 114, 105, 110, 103]⟩ 575), (.ref 305)⟩, ⟨PySem.PyData.keyHash w.params ⟨#[97, 115, 99, 101, 110, 100, 105, 110, 103]⟩, (.str ⟨#[97, 115, 99, 101, 110, 100, 105, 110, 103]⟩ 581), (.ref 310)⟩, ⟨PySem.PyData.keyHash w.params ⟨#[102, 114, 101, 101]⟩, (.str ⟨#[102, 114, 101, 101]⟩ 588), (.ref 317)⟩, ⟨PySem.PyData.keyHash w.params ⟨#[103, 114, 101, 97, 116, 101, 115, 116]⟩, (.str ⟨#[103, 114, 101, 97, 116, 101, 115, 116]⟩ 595), (.ref 324)⟩, ⟨PySem.PyData.keyHash w.params ⟨#[112, 117, 116]⟩, (.str ⟨#[112, 117, 116]⟩ 601), (.ref 329)⟩, ⟨PySem.PyData.keyHash w.params ⟨#[102, 114, 101, 115, 104]⟩, (.str ⟨#[102, 114, 101, 115, 104]⟩ 609), (.ref 336)⟩, ⟨PySem.PyData.keyHash w.params ⟨#[119, 97, 121, 115]⟩, (.str ⟨#[119, 97, 121, 115]⟩ 615), (.ref 341)⟩, ⟨PySem.PyData.keyHash w.params ⟨#[108, 111, 110, 103, 101, 114, 95, 119, 97, 121, 115]⟩, (.str ⟨#[108, 111, 110, 103, 101, 114, 95, 119, 97, 121, 115]⟩ 621), (.ref 346)⟩, ⟨PySem.PyData.keyHash w.params ⟨#[119, 105, 100, 101, 110, 101, 100]⟩, (.str ⟨#[119, 105, 100, 101, 110, 101, 100]⟩ 627), (.ref 351)⟩, ⟨PySem.PyData.keyHash w.params ⟨#[101, 110, 111, 117, 103, 104]⟩, (.str ⟨#[101, 110, 111, 117, 103, 104]⟩ 636), (.ref 358)⟩, ⟨PySem.PyData.keyHash w.params ⟨#[115, 116, 97, 110, 100, 115]⟩, (.str ⟨#[115, 116, 97, 110, 100, 115]⟩ 646), (.ref 365)⟩, ⟨PySem.PyData.keyHash w.params ⟨#[102, 105, 108, 108, 105, 110, 103, 115]⟩, (.str ⟨#[102, 105, 108, 108, 105, 110, 103, 115]⟩ 652), (.ref 370)⟩, ⟨PySem.PyData.keyHash w.params ⟨#[116, 111, 108, 100, 95, 116, 101, 114, 109, 115]⟩, (.str ⟨#[116, 111, 108, 100, 95, 116, 101, 114, 109, 115]⟩ 658), (.ref 375)⟩, ⟨PySem.PyData.keyHash w.params ⟨#[117, 110, 108, 105, 107, 101]⟩, (.str ⟨#[117, 110, 108, 105, 107, 101]⟩ 668), (.ref 382)⟩, ⟨PySem.PyData.keyHash w.params ⟨#[101, 113, 117, 97, 108, 95, 108, 105, 115, 116, 115]⟩, (.str ⟨#[101, 113, 117, 97, 108, 95, 108, 105, 115, 116, 115]⟩ 674), (.ref 387)⟩, ⟨PySem.PyData.keyHash w.params ⟨#[105, 115, 95, 102, 108, 97, 116]⟩, (.str ⟨#[105, 115, 95, 102, 108, 97, 116]⟩ 680), (.ref 392)⟩, ⟨PySem.PyData.keyHash w.params ⟨#[102, 108, 97, 116, 95, 114, 111, 119, 115]⟩, (.str ⟨#[102, 108, 97, 116, 95, 114, 111, 119, 115]⟩ 686), (.ref 397)⟩, ⟨PySem.PyData.keyHash w.params ⟨#[115, 97, 109, 101]⟩, (.str ⟨#[115, 97, 109, 101]⟩ 699), (.ref 404)⟩, ⟨PySem.PyData.keyHash w.params ⟨#[109, 101, 109, 98, 101, 114]⟩, (.str ⟨#[109, 101, 109, 98, 101, 114]⟩ 705), (.ref 409)⟩, ⟨PySem.PyData.keyHash w.params ⟨#[119, 105, 116, 104, 105, 110]⟩, (.str ⟨#[119, 105, 116, 104, 105, 110]⟩ 711), (.ref 414)⟩, ⟨PySem.PyData.keyHash w.params ⟨#[104, 97, 115, 95, 115, 101, 116]⟩, (.str ⟨#[104, 97, 115, 95, 115, 101, 116]⟩ 719), (.ref 421)⟩, ⟨PySem.PyData.keyHash w.params ⟨#[114, 111, 119, 95, 111, 118, 101, 114]⟩, (.str ⟨#[114, 111, 119, 95, 111, 118, 101, 114]⟩ 725), (.ref 426)⟩, ⟨PySem.PyData.keyHash w.params ⟨#[98, 117, 105, 108, 116]⟩, (.str ⟨#[98, 117, 105, 108, 116]⟩ 731), (.ref 431)⟩, ⟨PySem.PyData.keyHash w.params ⟨#[115, 104, 105, 102, 116, 101, 100]⟩, (.str ⟨#[115, 104, 105, 102, 116, 101, 100]⟩ 737), (.ref 436)⟩, ⟨PySem.PyData.keyHash w.params ⟨#[69, 77, 80, 84, 89]⟩, (.str ⟨#[69, 77, 80, 84, 89]⟩ 739), (.ref 439)⟩, ⟨PySem.PyData.keyHash w.params ⟨#[115, 116, 111, 99, 107]⟩, (.str ⟨#[115, 116, 111, 99, 107]⟩ 745), (.ref 444)⟩, ⟨PySem.PyData.keyHash w.params ⟨#[82, 69, 83, 69, 82, 86, 69, 68]⟩, (.str ⟨#[82, 69, 83, 69, 82, 86, 69, 68]⟩ 764), (.ref 445)⟩, ⟨PySem.PyData.keyHash w.params ⟨#[68, 69, 69, 80, 69, 83, 84, 95, 116, 114, 101, 101, 115]⟩, (.str ⟨#[68, 69, 69, 80, 69, 83, 84, 95, 116, 114, 101, 101, 115]⟩ 766), (.int 40 765)⟩, ⟨PySem.PyData.keyHash w.params ⟨#[76, 69, 86, 69, 76, 83]⟩, (.str ⟨#[76, 69, 86, 69, 76, 83]⟩ 768), (.int 10 767)⟩, ⟨PySem.PyData.keyHash w.params ⟨#[71, 82, 69, 65, 84, 69, 83, 84]⟩, (.str ⟨#[71, 82, 69, 65, 84, 69, 83, 84]⟩ 772), (.int 1000000000000000000000000000000000000000000000000000000000000 771)⟩, ⟨PySem.PyData.keyHash w.params ⟨#[83, 73, 71, 78, 83]⟩, (.str ⟨#[83, 73, 71, 78, 83]⟩ 779), (.ref 446)⟩, ⟨PySem.PyData.keyHash w.params ⟨#[80, 76, 65, 73, 78]⟩, (.str ⟨#[80, 76, 65, 73, 78]⟩ 848), (.ref 447)⟩, ⟨PySem.PyData.keyHash w.params ⟨#[105, 115, 95, 119, 111, 114, 100]⟩, (.str ⟨#[105, 115, 95, 119, 111, 114, 100]⟩ 854), (.ref 469)⟩, ⟨PySem.PyData.keyHash w.params ⟨#[105, 115, 95, 110, 97, 109, 101]⟩, (.str ⟨#[105, 115, 95, 110, 97, 109, 101]⟩ 861), (.ref 476)⟩, ⟨PySem.PyData.keyHash w.params ⟨#[112, 97, 116, 116, 101, 114, 110, 95, 118, 97, 114, 105, 97, 98, 108, 101, 115]⟩, (.str ⟨#[112, 97, 116, 116, 101, 114, 110, 95, 118, 97, 114, 105, 97, 98, 108, 101, 115]⟩ 868), (.ref 483)⟩, ⟨PySem.PyData.keyHash w.params ⟨#[103, 111, 111, 100, 95, 112, 97, 116, 116, 101, 114, 110]⟩, (.str ⟨#[103, 111, 111, 100, 95, 112, 97, 116, 116, 101, 114, 110]⟩ 874), (.ref 488)⟩, ⟨PySem.PyData.keyHash w.params ⟨#[103, 111, 111, 100]⟩, (.str ⟨#[103, 111, 111, 100]⟩ 881), (.ref 494)⟩, ⟨PySem.PyData.keyHash w.params ⟨#[103, 111, 111, 100, 95, 101, 120, 112, 114, 101, 115, 115, 105, 111, 110]⟩, (.str ⟨#[103, 111, 111, 100, 95, 101, 120, 112, 114, 101, 115, 115, 105, 111, 110]⟩ 887), (.ref 499)⟩, ⟨PySem.PyData.keyHash w.params ⟨#[103, 111, 111, 100, 95, 103, 97, 116, 104, 101, 114]⟩, (.str ⟨#[103, 111, 111, 100, 95, 103, 97, 116, 104, 101, 114]⟩ 898), (.ref 506)⟩, ⟨PySem.PyData.keyHash w.params ⟨#[103, 111, 111, 100, 95, 116, 101, 115, 116]⟩, (.str ⟨#[103, 111, 111, 100, 95, 116, 101, 115, 116]⟩ 908), (.ref 513)⟩, ⟨PySem.PyData.keyHash w.params ⟨#[103, 111, 111, 100, 95, 104, 101, 97, 100]⟩, (.str ⟨#[103, 111, 111, 100, 95, 104, 101, 97, 100]⟩ 918), (.ref 520)⟩, ⟨PySem.PyData.keyHash w.params ⟨#[119, 114, 111, 110, 103, 95, 112, 108, 97, 99, 101]⟩, (.str ⟨#[119, 114, 111, 110, 103, 95, 112, 108, 97, 99, 101]⟩ 935), (.ref 529)⟩, ⟨PySem.PyData.keyHash w.params ⟨#[102, 114, 101, 101, 95, 118, 97, 114, 105, 97, 98, 108, 101, 115]⟩, (.str ⟨#[102, 114, 101, 101, 95, 118, 97, 114, 105, 97, 98, 108, 101, 115]⟩ 947), (.ref 538)⟩, ⟨PySem.PyData.keyHash w.params ⟨#[106, 111, 105, 110, 101, 100]⟩, (.str ⟨#[106, 111, 105, 110, 101, 100]⟩ 953), (.ref 543)⟩, ⟨PySem.PyData.keyHash w.params ⟨#[115, 116, 97, 116, 101, 95, 118, 97, 114, 105, 97, 98, 108, 101, 115]⟩, (.str ⟨#[115, 116, 97, 116, 101, 95, 118, 97, 114, 105, 97, 98, 108, 101, 115]⟩ 963), (.ref 550)⟩, ⟨PySem.PyData.keyHash w.params ⟨#[86, 65, 76, 85, 69, 95, 83, 73, 71, 78, 83]⟩, (.str ⟨#[86, 65, 76, 85, 69, 95, 83, 73, 71, 78, 83]⟩ 978), (.ref 551)⟩, ⟨PySem.PyData.keyHash w.params ⟨#[84, 69, 83, 84, 95, 83, 73, 71, 78, 83]⟩, (.str ⟨#[84, 69, 83, 84, 95, 83, 73, 71, 78, 83]⟩ 988), (.ref 552)⟩, ⟨PySem.PyData.keyHash w.params ⟨#[78, 85, 77, 66, 69, 82, 95, 83, 73, 71, 78, 83]⟩, (.str ⟨#[78, 85, 77, 66, 69, 82, 95, 83, 73, 71, 78, 83]⟩ 998), (.ref 553)⟩, ⟨PySem.PyData.keyHash w.params ⟨#[67, 79, 77, 80, 65, 82, 69]⟩, (.str ⟨#[67, 79, 77, 80, 65, 82, 69]⟩ 1005), (.ref 554)⟩, ⟨PySem.PyData.keyHash w.params ⟨#[68, 69, 69, 80, 69, 83, 84, 95, 114, 101, 97, 100, 105, 110, 103]⟩, (.str ⟨#[68, 69, 69, 80, 69, 83, 84, 95, 114, 101, 97, 100, 105, 110, 103]⟩ 1007), (.int 40 1006)⟩, ⟨PySem.PyData.keyHash w.params ⟨#[85, 110, 114, 101, 97, 100]⟩, (.str ⟨#[85, 110, 114, 101, 97, 100]⟩ 1038), (.ref 573)⟩, ⟨PySem.PyData.keyHash w.params ⟨#[82, 101, 97, 100, 101, 114]⟩, (.str ⟨#[82, 101, 97, 100, 101, 114]⟩ 1193), (.ref 677)⟩, ⟨PySem.PyData.keyHash w.params ⟨#[98, 114, 97, 99, 107, 101, 116, 101, 100]⟩, (.str ⟨#[98, 114, 97, 99, 107, 101, 116, 101, 100]⟩ 1204), (.ref 688)⟩, ⟨PySem.PyData.keyHash w.params ⟨#[70, 73, 82, 83, 84]⟩, (.str ⟨#[70, 73, 82, 83, 84]⟩ 1208), (.str ⟨#[107, 110, 111, 119, 110]⟩ 1207)⟩, ⟨PySem.PyData.keyHash w.params ⟨#[65, 83, 83, 73, 71, 78, 95, 108, 105, 110, 101, 115]⟩, (.str ⟨#[65, 83, 83, 73, 71, 78, 95, 108, 105, 110, 101, 115]⟩ 1215), (.ref 692)⟩, ⟨PySem.PyData.keyHash w.params ⟨#[114, 101, 97, 100, 95, 108, 105, 110, 101, 115]⟩, (.str ⟨#[114, 101, 97, 100, 95, 108, 105, 110, 101, 115]⟩ 1226), (.ref 699)⟩, ⟨PySem.PyData.keyHash w.params ⟨#[114, 101, 97, 100, 95, 107, 110, 111, 119, 110]⟩, (.str ⟨#[114, 101, 97, 100, 95, 107, 110, 111, 119, 110]⟩ 1232), (.ref 704)⟩, ⟨PySem.PyData.keyHash w.params ⟨#[105, 110, 100, 101, 110, 116, 97, 116, 105, 111, 110]⟩, (.str ⟨#[105, 110, 100, 101, 110, 116, 97, 116, 105, 111, 110]⟩ 1239), (.ref 711)⟩, ⟨PySem.PyData.keyHash w.params ⟨#[114, 101, 97, 100, 95, 98, 108, 111, 99, 107]⟩, (.str ⟨#[114, 101, 97, 100, 95, 98, 108, 111, 99, 107]⟩ 1251), (.ref 718)⟩, ⟨PySem.PyData.keyHash w.params ⟨#[114, 101, 97, 100, 95, 115, 116, 97, 116, 101, 109, 101, 110, 116]⟩, (.str ⟨#[114, 101, 97, 100, 95, 115, 116, 97, 116, 101, 109, 101, 110, 116]⟩ 1267), (.ref 725)⟩, ⟨PySem.PyData.keyHash w.params ⟨#[114, 101, 97, 100, 95, 105, 110, 110, 101, 114]⟩, (.str ⟨#[114, 101, 97, 100, 95, 105, 110, 110, 101, 114]⟩ 1278), (.ref 732)⟩, ⟨PySem.PyData.keyHash w.params ⟨#[114, 101, 97, 100, 95, 104, 101, 97, 100]⟩, (.str ⟨#[114, 101, 97, 100, 95, 104, 101, 97, 100]⟩ 1294), (.ref 739)⟩, ⟨PySem.PyData.keyHash w.params ⟨#[104, 101, 97, 100, 95, 111, 102]⟩, (.str ⟨#[104, 101, 97, 100, 95, 111, 102]⟩ 1305), (.ref 746)⟩, ⟨PySem.PyData.keyHash w.params ⟨#[83, 73, 71, 78, 95, 79, 70]⟩, (.str ⟨#[83, 73, 71, 78, 95, 79, 70]⟩ 1344), (.ref 747)⟩, ⟨PySem.PyData.keyHash w.params ⟨#[65, 83, 83, 73, 71, 78, 95, 119, 114, 105, 116, 105, 110, 103]⟩, (.str ⟨#[65, 83, 83, 73, 71, 78, 95, 119, 114, 105, 116, 105, 110, 103]⟩ 1354), (.ref 748)⟩, ⟨PySem.PyData.keyHash w.params ⟨#[112, 97, 116, 116, 101, 114, 110, 95, 116, 101, 120, 116]⟩, (.str ⟨#[112, 97, 116, 116, 101, 114, 110, 95, 116, 101, 120, 116]⟩ 1361), (.ref 755)⟩, ⟨PySem.PyData.keyHash w.params ⟨#[116, 114, 101, 101, 95, 116, 101, 120, 116]⟩, (.str ⟨#[116, 114, 101, 101, 95, 116, 101, 120, 116]⟩ 1367), (.ref 760)⟩, ⟨PySem.PyData.keyHash w.params ⟨#[103, 97, 116, 104, 101, 114, 95, 116, 101, 120, 116]⟩, (.str ⟨#[103, 97, 116, 104, 101, 114, 95, 116, 101, 120, 116]⟩ 1373), (.ref 765)⟩, ⟨PySem.PyData.keyHash w.params ⟨#[115, 116, 97, 116, 101, 109, 101, 110, 116, 95, 108, 105, 110, 101, 115]⟩, (.str ⟨#[115, 116, 97, 116, 101, 109, 101, 110, 116, 95, 108, 105, 110, 101, 115]⟩ 1379), (.ref 770)⟩, ⟨PySem.PyData.keyHash w.params ⟨#[108, 105, 110, 101, 115, 95, 111, 102]⟩, (.str ⟨#[108, 105, 110, 101, 115, 95, 111, 102]⟩ 1390), (.ref 777)⟩, ⟨PySem.PyData.keyHash w.params ⟨#[112, 114, 111, 103, 114, 97, 109, 95, 116, 101, 120, 116]⟩, (.str ⟨#[112, 114, 111, 103, 114, 97, 109, 95, 116, 101, 120, 116]⟩ 1399), (.ref 784)⟩, ⟨PySem.PyData.keyHash w.params ⟨#[80, 114, 111, 103, 114, 97, 109]⟩, (.str ⟨#[80, 114, 111, 103, 114, 97, 109]⟩ 1493), (.ref 848)⟩, ⟨PySem.PyData.keyHash w.params ⟨#[99, 104, 97, 105, 110, 101, 100]⟩, (.str ⟨#[99, 104, 97, 105, 110, 101, 100]⟩ 1499), (.ref 857)⟩, ⟨PySem.PyData.keyHash w.params ⟨#[105, 115, 95, 119, 104, 111, 108, 101]⟩, (.str ⟨#[105, 115, 95, 119, 104, 111, 108, 101]⟩ 1508), (.ref 864)⟩, ⟨PySem.PyData.keyHash w.params ⟨#[119, 104, 111, 108, 101, 95, 108, 105, 115, 116]⟩, (.str ⟨#[119, 104, 111, 108, 101, 95, 108, 105, 115, 116]⟩ 1514), (.ref 869)⟩, ⟨PySem.PyData.keyHash w.params ⟨#[116, 114, 105, 109, 109, 101, 100]⟩, (.str ⟨#[116, 114, 105, 109, 109, 101, 100]⟩ 1522), (.ref 876)⟩, ⟨PySem.PyData.keyHash w.params ⟨#[119, 104, 111, 108, 101, 95, 114, 111, 119]⟩, (.str ⟨#[119, 104, 111, 108, 101, 95, 114, 111, 119]⟩ 1529), (.ref 883)⟩, ⟨PySem.PyData.keyHash w.params ⟨#[114, 111, 119, 95, 118, 97, 108, 117, 101]⟩, (.str ⟨#[114, 111, 119, 95, 118, 97, 108, 117, 101]⟩ 1541), (.ref 890)⟩, ⟨PySem.PyData.keyHash w.params ⟨#[100, 105, 102, 102, 101, 114, 101, 110, 99, 101, 115]⟩, (.str ⟨#[100, 105, 102, 102, 101, 114, 101, 110, 99, 101, 115]⟩ 1547), (.ref 895)⟩, ⟨PySem.PyData.keyHash w.params ⟨#[114, 111, 119, 95, 109, 111, 118, 101, 100]⟩, (.str ⟨#[114, 111, 119, 95, 109, 111, 118, 101, 100]⟩ 1553), (.ref 900)⟩, ⟨PySem.PyData.keyHash w.params ⟨#[110, 101, 103, 97, 116, 101, 100]⟩, (.str ⟨#[110, 101, 103, 97, 116, 101, 100]⟩ 1559), (.ref 905)⟩, ⟨PySem.PyData.keyHash w.params ⟨#[97, 100, 100, 95, 114, 111, 119, 115]⟩, (.str ⟨#[97, 100, 100, 95, 114, 111, 119, 115]⟩ 1565), (.ref 910)⟩, ⟨PySem.PyData.keyHash w.params ⟨#[116, 97, 107, 101, 95, 114, 111, 119, 115]⟩, (.str ⟨#[116, 97, 107, 101, 95, 114, 111, 119, 115]⟩ 1573), (.ref 917)⟩, ⟨PySem.PyData.keyHash w.params ⟨#[109, 117, 108, 116, 105, 112, 108, 121, 95, 114, 111, 119, 115]⟩, (.str ⟨#[109, 117, 108, 116, 105, 112, 108, 121, 95, 114, 111, 119, 115]⟩ 1579), (.ref 922)⟩, ⟨PySem.PyData.keyHash w.params ⟨#[102, 97, 108, 108, 105, 110, 103, 95, 114, 111, 119]⟩, (.str ⟨#[102, 97, 108, 108, 105, 110, 103, 95, 114, 111, 119]⟩ 1589), (.ref 929)⟩, ⟨PySem.PyData.keyHash w.params ⟨#[115, 105, 103, 110, 95, 111, 102]⟩, (.str ⟨#[115, 105, 103, 110, 95, 111, 102]⟩ 1596), (.ref 936)⟩, ⟨PySem.PyData.keyHash w.params ⟨#[102, 105, 114, 115, 116, 95, 102, 114, 111, 109]⟩, (.str ⟨#[102, 105, 114, 115, 116, 95, 102, 114, 111, 109]⟩ 1608), (.ref 943)⟩, ⟨PySem.PyData.keyHash w.params ⟨#[99, 117, 116, 95, 98, 121, 95, 115, 105, 103, 110]⟩, (.str ⟨#[99, 117, 116, 95, 98, 121, 95, 115, 105, 103, 110]⟩ 1614), (.ref 948)⟩, ⟨PySem.PyData.keyHash w.params ⟨#[106, 111, 105, 110, 101, 100, 95, 115, 105, 103, 110, 115]⟩, (.str ⟨#[106, 111, 105, 110, 101, 100, 95, 115, 105, 103, 110, 115]⟩ 1625), (.ref 955)⟩, ⟨PySem.PyData.keyHash w.params ⟨#[115, 105, 103, 110, 115, 95, 111, 102]⟩, (.str ⟨#[115, 105, 103, 110, 115, 95, 111, 102]⟩ 1631), (.ref 960)⟩, ⟨PySem.PyData.keyHash w.params ⟨#[108, 101, 97, 115, 116, 95, 115, 105, 103, 110]⟩, (.str ⟨#[108, 101, 97, 115, 116, 95, 115, 105, 103, 110]⟩ 1637), (.ref 965)⟩, ⟨PySem.PyData.keyHash w.params ⟨#[114, 111, 119, 95, 111, 102]⟩, (.str ⟨#[114, 111, 119, 95, 111, 102]⟩ 1644), (.ref 972)⟩] 116), #[]⟩, boot_o_4 w.params, boot_o_5 w.params, boot_o_6 w.params, boot_o_7 w.params, boot_o_8 w.params, boot_o_9 w.params, boot_o_10 w.params, ⟨(.type "tuple"), none, (.seq #[] 0), #[]⟩, ⟨.none, none, (.fields #[(.int 1 0), (.int 0 0), (.ref 20), (.int 5 0), (.int 0 0), (.ref 27), (.int 7 0), (.int 0 0), (.ref 41), (.int 12 0), (.int 0 0), (.ref 62), (.int 17 0), (.int 0 0), (.ref 83), (.int 22 0), (.int 0 0), (.ref 104), (.int 28 0), (.int 0 0), (.ref 125), (.int 33 0), (.int 0 0), (.ref 146), (.int 38 0), (.int 0 0), (.ref 167), (.int 43 0), (.int 0 0), (.ref 187), (.int 45 0), (.int 0 0), (.ref 200), (.int 50 0), (.int 0 0), (.ref 221), (.int 56 0), (.int 0 0), (.ref 242), (.int 63 0), (.int 0 0), (.ref 263), (.int 69 0), (.int 0 0), (.ref 284), (.int 75 0), (.int 0 0), (.ref 304), (.int 87 0), (.int 0 0), (.ref 309), (.int 89 0), (.int 0 0), (.ref 316), (.int 91 0), (.int 0 0), (.ref 323), (.int 93 0), (.int 0 0), (.ref 328), (.int 107 0), (.int 0 0), (.ref 335), (.int 109 0), (.int 0 0), (.ref 340), (.int 114 0), (.int 0 0), (.ref 345), (.int 117 0), (.int 0 0), (.ref 350), (.int 124 0), (.int 0 0), (.ref 357), (.int 130 0), (.int 0 0), (.ref 364), (.int 132 0), (.int 0 0), (.ref 369), (.int 136 0), (.int 0 0), (.ref 374), (.int 141 0), (.int 0 0), (.ref 381), (.int 155 0), (.int 0 0), (.ref 386), (.int 157 0), (.int 0 0), (.ref 391), (.int 159 0), (.int 0 0), (.ref 396), (.int 161 0), (.int 0 0), (.ref 403), (.int 175 0), (.int 0 0), (.ref 408), (.int 187 0), (.int 0 0), (.ref 413), (.int 198 0), (.int 0 0), (.ref 420), (.int 204 0), (.int 0 0), (.ref 425), (.int 208 0), (.int 0 0), (.ref 430), (.int 223 0), (.int 0 0), (.ref 435), (.int 235 0), (.int 0 0), (.ref 443), (.int 244 0), (.int 0 0), (.ref 468), (.int 248 0), (.int 0 0), (.ref 475), (.int 250 0), (.int 0 0), (.ref 482), (.int 254 0), (.int 0 0), (.ref 487), (.int 263 0), (.int 0 0), (.ref 493), (.int 279 0), (.int 0 0), (.ref 498), (.int 292 0), (.int 0 0), (.ref 505), (.int 302 0), (.int 0 0), (.ref 512), (.int 312 0), (.int 0 0), (.ref 519), (.int 326 0), (.int 0 0), (.ref 528), (.int 337 0), (.int 0 0), (.ref 537), (.int 353 0), (.int 0 0), (.ref 542), (.int 355 0), (.int 0 0), (.ref 549), (.int 372 0), (.int 0 0), (.ref 561), (.int 377 0), (.int 0 0), (.ref 582), (.int 527 0), (.int 0 0), (.ref 687), (.int 542 0), (.int 0 0), (.ref 698), (.int 551 0), (.int 0 0), (.ref 703), (.int 560 0), (.int 0 0), (.ref 710), (.int 562 0), (.int 0 0), (.ref 717), (.int 568 0), (.int 0 0), (.ref 724), (.int 581 0), (.int 0 0), (.ref 731), (.int 587 0), (.int 0 0), (.ref 738), (.int 600 0), (.int 0 0), (.ref 745), (.int 617 0), (.int 0 0), (.ref 754), (.int 621 0), (.int 0 0), (.ref 759), (.int 646 0), (.int 0 0), (.ref 764), (.int 650 0), (.int 0 0), (.ref 769), (.int 652 0), (.int 0 0), (.ref 776), (.int 661 0), (.int 0 0), (.ref 783), (.int 665 0), (.int 0 0), (.ref 790), (.int 701 0), (.int 0 0), (.ref 856), (.int 705 0), (.int 0 0), (.ref 863), (.int 707 0), (.int 0 0), (.ref 868), (.int 709 0), (.int 0 0), (.ref 875), (.int 714 0), (.int 0 0), (.ref 882), (.int 716 0), (.int 0 0), (.ref 889), (.int 723 0), (.int 0 0), (.ref 894), (.int 730 0), (.int 0 0), (.ref 899), (.int 732 0), (.int 0 0), (.ref 904), (.int 734 0), (.int 0 0), (.ref 909), (.int 739 0), (.int 0 0), (.ref 916), (.int 741 0), (.int 0 0), (.ref 921), (.int 745 0), (.int 0 0), (.ref 928), (.int 750 0), (.int 0 0), (.ref 935), (.int 752 0), (.int 0 0), (.ref 942), (.int 765 0), (.int 0 0), (.ref 947), (.int 774 0), (.int 0 0), (.ref 954), (.int 782 0), (.int 0 0), (.ref 959), (.int 788 0), (.int 0 0), (.ref 964), (.int 790 0), (.int 0 0), (.ref 971)]), #[]⟩, ⟨(.type "code"), none, (.fields #[(.str ⟨#[60, 109, 111, 100, 117, 108, 101, 62]⟩ 182), (.str ⟨#[60, 109, 111, 100, 117, 108, 101, 62]⟩ 183), (.str ⟨#[47, 99, 108, 97, 105, 109, 47, 99, 117, 116, 46, 112, 121]⟩ 184), (.int 1 0), (.int 0 0), (.int 0 0), (.int 0 0), (.int 0 0), (.ref 11), (.bool false), (.int 181 0), (.ref 12), .none, .none, .none, .none, (.int 185 0), (.int 1 0), (.str ⟨#[47, 99, 108, 97, 105, 109, 47, 99, 117, 116, 46, 112, 121]⟩ 186)]), #[]⟩, ⟨(.type "frame"), none, .plain, #[(some (.ref 13)), (some (.ref 3)), (some (.ref 3)), none, (some (.str ⟨#[95, 95, 109, 97, 105, 110, 95, 95]⟩ 164)), none, (some (.ref 0))]⟩]
def O8 : List Nat := [29, 30, 31, 32, 38, 49, 50, 51, 52, 53, 197, 208, 209, 210, 211, 212, 281, 292, 293, 294, 295, 296, 437, 438, 439, 443, 444, 445, 468, 469, 475, 476, 521, 522, 528, 529, 542, 543, 549, 550]
def A8 : List Nat := [769, 770, 783, 784, 792, 793, 794, 798, 799, 805, 806, 808, 815, 816, 817, 823, 824, 830, 831, 837, 838, 844, 845, 846, 847, 848, 849, 850, 875, 876, 882, 883, 889, 890]
def G8 (p : Program) (w : World) : List Obj := [⟨(.type "code"), none, (.fields #[(.str ⟨#[115, 116, 97, 116, 101, 109, 101, 110, 116, 95, 108, 105, 110, 101, 115]⟩ 1374), (.str ⟨#[115, 116, 97, 116, 101, 109, 101, 110, 116, 95, 108, 105, 110, 101, 115]⟩ 1375), (.str ⟨#[47, 99, 108, 97, 105, 109, 47, 99, 117, 116, 46, 112, 121]⟩ 1376), (.int 650 0), (.int 2 0), (.int 0 0), (.int 0 0), (.int 3 0), (.ref 766), (.bool true), (.int 181 0), (.ref 767), .none, .none, .none, (.ref 768), (.int 1377 0), (.int 650 0), (.str ⟨#[47, 99, 108, 97, 105, 109, 47, 99, 117, 116, 46, 112, 121]⟩ 1378)]), #[]⟩,
  ⟨(.type "function"), none, (.func (fnX ⟨#[115, 116, 97, 116, 101, 109, 101, 110, 116, 95, 108, 105, 110, 101, 115]⟩ ⟨#[115, 116, 97, 116, 101, 109, 101, 110, 116, 95, 108, 105, 110, 101, 115]⟩ (stA p 89) [] .none .none .none (.str ⟨#[101, 118, 101, 114, 121, 110, 97, 109, 101, 46, 119, 114, 105, 116, 105, 110, 103]⟩ 1306) none (.ref 769) .none)), #[]⟩,
  ⟨(.type "code"), none, (.fields #[(.str ⟨#[112, 114, 111, 103, 114, 97, 109, 95, 116, 101, 120, 116]⟩ 1391), (.str ⟨#[112, 114, 111, 103, 114, 97, 109, 95, 116, 101, 120, 116]⟩ 1392), (.str ⟨#[47, 99, 108, 97, 105, 109, 47, 99, 117, 116, 46, 112, 121]⟩ 1393), (.int 661 0), (.int 2 0), (.int 0 0), (.int 0 0), (.int 3 0), (.ref 778), (.bool true), (.int 181 0), (.ref 779), .none, (.ref 780), (.ref 781), (.ref 782), (.int 1397 0), (.int 661 0), (.str ⟨#[47, 99, 108, 97, 105, 109, 47, 99, 117, 116, 46, 112, 121]⟩ 1398)]), #[]⟩,
  ⟨(.type "function"), none, (.func (fnX ⟨#[112, 114, 111, 103, 114, 97, 109, 95, 116, 101, 120, 116]⟩ ⟨#[112, 114, 111, 103, 114, 97, 109, 95, 116, 101, 120, 116]⟩ (stA p 91) [] .none .none .none (.str ⟨#[101, 118, 101, 114, 121, 110, 97, 109, 101, 46, 119, 114, 105, 116, 105, 110, 103]⟩ 1306) none (.ref 783) .none)), #[]⟩,
  ⟨(.type "tuple"), none, (.seq #[] 0), #[]⟩,
  ⟨(.type "tuple"), none, (.seq #[] 0), #[]⟩,
  ⟨(.type "tuple"), none, (.seq #[(.ref 792), (.ref 793)] 0), #[]⟩,
  ⟨(.type "code"), none, (.fields #[(.str ⟨#[95, 95, 105, 110, 105, 116, 95, 95]⟩ 1414), (.str ⟨#[80, 114, 111, 103, 114, 97, 109, 46, 95, 95, 105, 110, 105, 116, 95, 95]⟩ 1415), (.str ⟨#[47, 99, 108, 97, 105, 109, 47, 99, 117, 116, 46, 112, 121]⟩ 1416), (.int 667 0), (.int 3 0), (.int 0 0), (.int 0 0), (.int 3 0), (.ref 795), (.bool true), (.int 181 0), (.ref 796), .none, .none, .none, (.ref 797), (.int 1417 0), (.int 667 0), (.str ⟨#[47, 99, 108, 97, 105, 109, 47, 99, 117, 116, 46, 112, 121]⟩ 1418)]), #[]⟩,
  ⟨(.type "function"), none, (.func (fnX ⟨#[95, 95, 105, 110, 105, 116, 95, 95]⟩ ⟨#[80, 114, 111, 103, 114, 97, 109, 46, 95, 95, 105, 110, 105, 116, 95, 95]⟩ (kidA (stA p 93) 0) [] (.ref 794) .none .none (.str ⟨#[101, 118, 101, 114, 121, 110, 97, 109, 101, 46, 112, 114, 111, 103, 114, 97, 109, 115]⟩ 1400) none (.ref 798) .none)), #[]⟩,
  ⟨(.type "code"), none, (.fields #[(.str ⟨#[114, 101, 97, 100]⟩ 1420), (.str ⟨#[80, 114, 111, 103, 114, 97, 109, 46, 114, 101, 97, 100]⟩ 1421), (.str ⟨#[47, 99, 108, 97, 105, 109, 47, 99, 117, 116, 46, 112, 121]⟩ 1422), (.int 679 0), (.int 2 0), (.int 0 0), (.int 0 0), (.int 3 0), (.ref 800), (.bool true), (.int 181 0), (.ref 801), .none, (.ref 802), (.ref 803), (.ref 804), (.int 1427 0), (.int 679 0), (.str ⟨#[47, 99, 108, 97, 105, 109, 47, 99, 117, 116, 46, 112, 121]⟩ 1428)]), #[]⟩,
  ⟨(.type "function"), none, (.func (fnX ⟨#[114, 101, 97, 100]⟩ ⟨#[80, 114, 111, 103, 114, 97, 109, 46, 114, 101, 97, 100]⟩ (kidA (stA p 93) 1) [] .none .none .none (.str ⟨#[101, 118, 101, 114, 121, 110, 97, 109, 101, 46, 112, 114, 111, 103, 114, 97, 109, 115]⟩ 1400) (some 809) (.ref 805) .none)), #[]⟩,
  ⟨(.type "classmethod"), (some 807), (.fields #[(.ref 806), (.bool false)]), #[]⟩,
  ⟨(.type "code"), none, (.fields #[(.str ⟨#[116, 101, 120, 116]⟩ 1442), (.str ⟨#[80, 114, 111, 103, 114, 97, 109, 46, 116, 101, 120, 116]⟩ 1443), (.str ⟨#[47, 99, 108, 97, 105, 109, 47, 99, 117, 116, 46, 112, 121]⟩ 1444), (.int 684 0), (.int 1 0), (.int 0 0), (.int 0 0), (.int 3 0), (.ref 810), (.bool true), (.int 181 0), (.ref 811), .none, (.ref 812), (.ref 813), (.ref 814), (.int 1446 0), (.int 684 0), (.str ⟨#[47, 99, 108, 97, 105, 109, 47, 99, 117, 116, 46, 112, 121]⟩ 1447)]), #[]⟩,
  ⟨(.type "function"), none, (.func (fnX ⟨#[116, 101, 120, 116]⟩ ⟨#[80, 114, 111, 103, 114, 97, 109, 46, 116, 101, 120, 116]⟩ (kidA (stA p 93) 2) [] .none .none .none (.str ⟨#[101, 118, 101, 114, 121, 110, 97, 109, 101, 46, 112, 114, 111, 103, 114, 97, 109, 115]⟩ 1400) none (.ref 815) .none)), #[]⟩,
  ⟨(.type "property"), none, (.fields #[(.ref 816), .none, .none, .none, (.str ⟨#[116, 101, 120, 116]⟩ 1449), (.bool false)]), #[]⟩,
  ⟨(.type "code"), none, (.fields #[(.str ⟨#[119, 105, 116, 104, 95, 107, 110, 111, 119, 110]⟩ 1450), (.str ⟨#[80, 114, 111, 103, 114, 97, 109, 46, 119, 105, 116, 104, 95, 107, 110, 111, 119, 110]⟩ 1451), (.str ⟨#[47, 99, 108, 97, 105, 109, 47, 99, 117, 116, 46, 112, 121]⟩ 1452), (.int 688 0), (.int 2 0), (.int 0 0), (.int 0 0), (.int 3 0), (.ref 818), (.bool true), (.int 181 0), (.ref 819), .none, (.ref 820), (.ref 821), (.ref 822), (.int 1455 0), (.int 688 0), (.str ⟨#[47, 99, 108, 97, 105, 109, 47, 99, 117, 116, 46, 112, 121]⟩ 1456)]), #[]⟩,
  ⟨(.type "function"), none, (.func (fnX ⟨#[119, 105, 116, 104, 95, 107, 110, 111, 119, 110]⟩ ⟨#[80, 114, 111, 103, 114, 97, 109, 46, 119, 105, 116, 104, 95, 107, 110, 111, 119, 110]⟩ (kidA (stA p 93) 3) [] .none .none .none (.str ⟨#[101, 118, 101, 114, 121, 110, 97, 109, 101, 46, 112, 114, 111, 103, 114, 97, 109, 115]⟩ 1400) none (.ref 823) .none)), #[]⟩,
  ⟨(.type "code"), none, (.fields #[(.str ⟨#[116, 104, 101, 110]⟩ 1458), (.str ⟨#[80, 114, 111, 103, 114, 97, 109, 46, 116, 104, 101, 110]⟩ 1459), (.str ⟨#[47, 99, 108, 97, 105, 109, 47, 99, 117, 116, 46, 112, 121]⟩ 1460), (.int 691 0), (.int 2 0), (.int 0 0), (.int 0 0), (.int 3 0), (.ref 825), (.bool true), (.int 181 0), (.ref 826), .none, (.ref 827), (.ref 828), (.ref 829), (.int 1463 0), (.int 691 0), (.str ⟨#[47, 99, 108, 97, 105, 109, 47, 99, 117, 116, 46, 112, 121]⟩ 1464)]), #[]⟩,
  ⟨(.type "function"), none, (.func (fnX ⟨#[116, 104, 101, 110]⟩ ⟨#[80, 114, 111, 103, 114, 97, 109, 46, 116, 104, 101, 110]⟩ (kidA (stA p 93) 4) [] .none .none .none (.str ⟨#[101, 118, 101, 114, 121, 110, 97, 109, 101, 46, 112, 114, 111, 103, 114, 97, 109, 115]⟩ 1400) none (.ref 830) .none)), #[]⟩,
  ⟨(.type "code"), none, (.fields #[(.str ⟨#[95, 95, 97, 100, 100, 95, 95]⟩ 1466), (.str ⟨#[80, 114, 111, 103, 114, 97, 109, 46, 95, 95, 97, 100, 100, 95, 95]⟩ 1467), (.str ⟨#[47, 99, 108, 97, 105, 109, 47, 99, 117, 116, 46, 112, 121]⟩ 1468), (.int 694 0), (.int 2 0), (.int 0 0), (.int 0 0), (.int 3 0), (.ref 832), (.bool true), (.int 181 0), (.ref 833), .none, (.ref 834), (.ref 835), (.ref 836), (.int 1471 0), (.int 694 0), (.str ⟨#[47, 99, 108, 97, 105, 109, 47, 99, 117, 116, 46, 112, 121]⟩ 1472)]), #[]⟩,
  ⟨(.type "function"), none, (.func (fnX ⟨#[95, 95, 97, 100, 100, 95, 95]⟩ ⟨#[80, 114, 111, 103, 114, 97, 109, 46, 95, 95, 97, 100, 100, 95, 95]⟩ (kidA (stA p 93) 5) [] .none .none .none (.str ⟨#[101, 118, 101, 114, 121, 110, 97, 109, 101, 46, 112, 114, 111, 103, 114, 97, 109, 115]⟩ 1400) none (.ref 837) .none)), #[]⟩,
  ⟨(.type "code"), none, (.fields #[(.str ⟨#[95, 95, 101, 113, 95, 95]⟩ 1474), (.str ⟨#[80, 114, 111, 103, 114, 97, 109, 46, 95, 95, 101, 113, 95, 95]⟩ 1475), (.str ⟨#[47, 99, 108, 97, 105, 109, 47, 99, 117, 116, 46, 112, 121]⟩ 1476), (.int 699 0), (.int 2 0), (.int 0 0), (.int 0 0), (.int 3 0), (.ref 839), (.bool true), (.int 181 0), (.ref 840), .none, (.ref 841), (.ref 842), (.ref 843), (.int 1479 0), (.int 699 0), (.str ⟨#[47, 99, 108, 97, 105, 109, 47, 99, 117, 116, 46, 112, 121]⟩ 1480)]), #[]⟩,
  ⟨(.type "function"), none, (.func (fnX ⟨#[95, 95, 101, 113, 95, 95]⟩ ⟨#[80, 114, 111, 103, 114, 97, 109, 46, 95, 95, 101, 113, 95, 95]⟩ (kidA (stA p 93) 6) [] .none .none .none (.str ⟨#[101, 118, 101, 114, 121, 110, 97, 109, 101, 46, 112, 114, 111, 103, 114, 97, 109, 115]⟩ 1400) none (.ref 844) .none)), #[]⟩,
  ⟨(.type "tuple"), none, (.seq #[(.str ⟨#[107, 110, 111, 119, 110]⟩ 1482), (.str ⟨#[115, 116, 97, 116, 101, 109, 101, 110, 116, 115]⟩ 1483), (.str ⟨#[118, 97, 114, 105, 97, 98, 108, 101, 115]⟩ 1484)] 0), #[]⟩,
  ⟨(.type "dict"), none, (.dict #[⟨PySem.PyData.keyHash w.params ⟨#[95, 95, 109, 111, 100, 117, 108, 101, 95, 95]⟩, (.str ⟨#[95, 95, 109, 111, 100, 117, 108, 101, 95, 95]⟩ 1409), (.str ⟨#[101, 118, 101, 114, 121, 110, 97, 109, 101, 46, 112, 114, 111, 103, 114, 97, 109, 115]⟩ 1400)⟩, ⟨PySem.PyData.keyHash w.params ⟨#[95, 95, 102, 105, 114, 115, 116, 108, 105, 110, 101, 110, 111, 95, 95]⟩, (.str ⟨#[95, 95, 102, 105, 114, 115, 116, 108, 105, 110, 101, 110, 111, 95, 95]⟩ 1413), (.int 665 1412)⟩, ⟨PySem.PyData.keyHash w.params ⟨#[95, 95, 105, 110, 105, 116, 95, 95]⟩, (.str ⟨#[95, 95, 105, 110, 105, 116, 95, 95]⟩ 1419), (.ref 799)⟩, ⟨PySem.PyData.keyHash w.params ⟨#[114, 101, 97, 100]⟩, (.str ⟨#[114, 101, 97, 100]⟩ 1441), (.ref 808)⟩, ⟨PySem.PyData.keyHash w.params ⟨#[116, 101, 120, 116]⟩, (.str ⟨#[116, 101, 120, 116]⟩ 1449), (.ref 817)⟩, ⟨PySem.PyData.keyHash w.params ⟨#[119, 105, 116, 104, 95, 107, 110, 111, 119, 110]⟩, (.str ⟨#[119, 105, 116, 104, 95, 107, 110, 111, 119, 110]⟩ 1457), (.ref 824)⟩, ⟨PySem.PyData.keyHash w.params ⟨#[116, 104, 101, 110]⟩, (.str ⟨#[116, 104, 101, 110]⟩ 1465), (.ref 831)⟩, ⟨PySem.PyData.keyHash w.params ⟨#[95, 95, 97, 100, 100, 95, 95]⟩, (.str ⟨#[95, 95, 97, 100, 100, 95, 95]⟩ 1473), (.ref 838)⟩, ⟨PySem.PyData.keyHash w.params ⟨#[95, 95, 101, 113, 95, 95]⟩, (.str ⟨#[95, 95, 101, 113, 95, 95]⟩ 1481), (.ref 845)⟩, ⟨PySem.PyData.keyHash w.params ⟨#[95, 95, 115, 116, 97, 116, 105, 99, 95, 97, 116, 116, 114, 105, 98, 117, 116, 101, 115, 95, 95]⟩, (.str ⟨#[95, 95, 115, 116, 97, 116, 105, 99, 95, 97, 116, 116, 114, 105, 98, 117, 116, 101, 115, 95, 95]⟩ 1485), (.ref 846)⟩, ⟨PySem.PyData.keyHash w.params ⟨#[95, 95, 100, 105, 99, 116, 95, 95]⟩, (.str ⟨#[95, 95, 100, 105, 99, 116, 95, 95]⟩ 1487), (.ref 849)⟩, ⟨PySem.PyData.keyHash w.params ⟨#[95, 95, 119, 101, 97, 107, 114, 101, 102, 95, 95]⟩, (.str ⟨#[95, 95, 119, 101, 97, 107, 114, 101, 102, 95, 95]⟩ 1489), (.ref 850)⟩, ⟨PySem.PyData.keyHash w.params ⟨#[95, 95, 100, 111, 99, 95, 95]⟩, (.str ⟨#[95, 95, 100, 111, 99, 95, 95]⟩ 1490), .none⟩, ⟨PySem.PyData.keyHash w.params ⟨#[95, 95, 104, 97, 115, 104, 95, 95]⟩, (.str ⟨#[95, 95, 104, 97, 115, 104, 95, 95]⟩ 1491), .none⟩] 5), #[]⟩,
  ⟨(.type "type"), none, (.cls ⟨⟨#[80, 114, 111, 103, 114, 97, 109]⟩, [(.type "object")], [(.ref 848), (.type "object")], 847, ⟨#[80, 114, 111, 103, 114, 97, 109]⟩, true, [], [], false, none, false⟩), #[none, none, (some (.str ⟨#[80, 114, 111, 103, 114, 97, 109]⟩ 1402)), (some (.str ⟨#[80, 114, 111, 103, 114, 97, 109]⟩ 1410)), (some (.builtin "object.__new__")), (some (.bool true))]⟩,
  ⟨(.type "getset_descriptor"), none, (.fields #[(.str ⟨#[95, 95, 100, 105, 99, 116, 95, 95]⟩ 1486), (.ref 848), (.builtin "function.__dict__"), (.builtin "function.__dict__#set")]), #[]⟩,
  ⟨(.type "getset_descriptor"), none, (.fields #[(.str ⟨#[95, 95, 119, 101, 97, 107, 114, 101, 102, 95, 95]⟩ 1488), (.ref 848), (.builtin "ExceptionGroup.__weakref__"), .none]), #[]⟩,
  ⟨(.type "code"), none, (.fields #[(.str ⟨#[116, 114, 105, 109, 109, 101, 100]⟩ 1515), (.str ⟨#[116, 114, 105, 109, 109, 101, 100]⟩ 1516), (.str ⟨#[47, 99, 108, 97, 105, 109, 47, 99, 117, 116, 46, 112, 121]⟩ 1517), (.int 709 0), (.int 1 0), (.int 0 0), (.int 0 0), (.int 3 0), (.ref 870), (.bool true), (.int 181 0), (.ref 871), .none, (.ref 872), (.ref 873), (.ref 874), (.int 1520 0), (.int 709 0), (.str ⟨#[47, 99, 108, 97, 105, 109, 47, 99, 117, 116, 46, 112, 121]⟩ 1521)]), #[]⟩,
  ⟨(.type "function"), none, (.func (fnX ⟨#[116, 114, 105, 109, 109, 101, 100]⟩ ⟨#[116, 114, 105, 109, 109, 101, 100]⟩ (stA p 98) [] .none .none .none (.str ⟨#[101, 118, 101, 114, 121, 110, 97, 109, 101, 46, 115, 105, 122, 101, 115]⟩ 1500) none (.ref 875) .none)), #[]⟩,
  ⟨(.type "code"), none, (.fields #[(.str ⟨#[119, 104, 111, 108, 101, 95, 114, 111, 119]⟩ 1523), (.str ⟨#[119, 104, 111, 108, 101, 95, 114, 111, 119]⟩ 1524), (.str ⟨#[47, 99, 108, 97, 105, 109, 47, 99, 117, 116, 46, 112, 121]⟩ 1525), (.int 714 0), (.int 1 0), (.int 0 0), (.int 0 0), (.int 3 0), (.ref 877), (.bool true), (.int 181 0), (.ref 878), .none, (.ref 879), (.ref 880), (.ref 881), (.int 1527 0), (.int 714 0), (.str ⟨#[47, 99, 108, 97, 105, 109, 47, 99, 117, 116, 46, 112, 121]⟩ 1528)]), #[]⟩,
  ⟨(.type "function"), none, (.func (fnX ⟨#[119, 104, 111, 108, 101, 95, 114, 111, 119]⟩ ⟨#[119, 104, 111, 108, 101, 95, 114, 111, 119]⟩ (stA p 99) [] .none .none .none (.str ⟨#[101, 118, 101, 114, 121, 110, 97, 109, 101, 46, 115, 105, 122, 101, 115]⟩ 1500) none (.ref 882) .none)), #[]⟩,
  ⟨(.type "code"), none, (.fields #[(.str ⟨#[114, 111, 119, 95, 118, 97, 108, 117, 101]⟩ 1530), (.str ⟨#[114, 111, 119, 95, 118, 97, 108, 117, 101]⟩ 1531), (.str ⟨#[47, 99, 108, 97, 105, 109, 47, 99, 117, 116, 46, 112, 121]⟩ 1532), (.int 716 0), (.int 2 0), (.int 0 0), (.int 0 0), (.int 3 0), (.ref 884), (.bool true), (.int 181 0), (.ref 885), .none, (.ref 886), (.ref 887), (.ref 888), (.int 1539 0), (.int 716 0), (.str ⟨#[47, 99, 108, 97, 105, 109, 47, 99, 117, 116, 46, 112, 121]⟩ 1540)]), #[]⟩,
  ⟨(.type "function"), none, (.func (fnX ⟨#[114, 111, 119, 95, 118, 97, 108, 117, 101]⟩ ⟨#[114, 111, 119, 95, 118, 97, 108, 117, 101]⟩ (stA p 100) [] .none .none .none (.str ⟨#[101, 118, 101, 114, 121, 110, 97, 109, 101, 46, 115, 105, 122, 101, 115]⟩ 1500) none (.ref 889) .none)), #[]⟩]
theorem grp8 (w : World) (os : OsState) (g : Nat → Obj) : grpO (HandSHeadRun.stepQ (HandSHeadRun.denQ HandSHeadRun.tabQ) PySem.W.Fast.tw10313853756172224601 w) 1373 (O8 ++ A8) (boot_heap w.params).life boot_drawn 1355 os (F7 w ++ (List.range 734).map fun i => g (15 + i)) (piecesOf (((((((((((((((((PySem.W.Fast.tw10313853756172224601).main.body).drop 16)).drop 33)).drop 1)).drop 14)).drop 3)).drop 17)).drop 2)).take 29) (envA PySem.W.Fast.tw10313853756172224601 13 14) (codeA PySem.W.Fast.tw10313853756172224601 13 14) ⟨616, 0, 616, 14⟩ [topFrame ⟨0, 0, 0, 0⟩]) =
    some (.next, (codeA PySem.W.Fast.tw10313853756172224601 13 14), ⟨790, 0, 795, 15⟩, 973, (boot_heap w.params).life, 0, boot_drawn, 1645, os, (F8 w).map some, (O8.map g ++ G8 PySem.W.Fast.tw10313853756172224601 w).map some) := by kernel_rfl
def F9 (w : World) : List Obj := [boot_o_0 w.params, boot_o_1 w.params, ⟨.none, none, (.dict #[⟨PySem.PyData.keyHash w.params ⟨#[116, 121, 112, 101, 46, 95, 95, 115, 117, 98, 99, 108, 97, 115, 115, 101, 115, 95, 95, 46, 69, 120, 99, 101, 112, 116, 105, 111, 110, 46, 48]⟩, (.str ⟨#[116, 121, 112, 101, 46, 95, 95, 115, 117, 98, 99, 108, 97, 115, 115, 101, 115, 95, 95, 46, 69, 120, 99, 101, 112, 116, 105, 111, 110, 46, 48]⟩ 1035), (.int 573 0)⟩, ⟨PySem.PyData.keyHash w.params ⟨#[116, 121, 112, 101, 46, 95, 95, 115, 117, 98, 99, 108, 97, 115, 115, 101, 115, 95, 95, 46, 69, 120, 99, 101, 112, 116, 105, 111, 110, 46, 110]⟩, (.str ⟨#[116, 121, 112, 101, 46, 95, 95, 115, 117, 98, 99, 108, 97, 115, 115, 101, 115, 95, 95, 46, 69, 120, 99, 101, 112, 116, 105, 111, 110, 46, 110]⟩ 1036), (.int 1 0)⟩] 2), #[]⟩, ⟨(.type "dict"), none, (.dict #[⟨PySem.PyData.keyHash w.params ⟨#[95, 95, 110, 97, 109, 101, 95, 95]⟩, (.str ⟨#[95, 95, 110, 97, 109, 101, 95, 95]⟩ 165), (.str ⟨#[101, 118, 101, 114, 121, 110, 97, 109, 101, 46, 115, 112, 97, 110, 115]⟩ 1888)⟩, ⟨PySem.PyData.keyHash w.params ⟨#[95, 95, 100, 111, 99, 95, 95]⟩, (.str ⟨#[95, 95, 100, 111, 99, 95, 95]⟩ 166), .none⟩, ⟨PySem.PyData.keyHash w.params ⟨#[95, 95, 112, 97, 99, 107, 97, 103, 101, 95, 95]⟩, (.str ⟨#[95, 95, 112, 97, 99, 107, 97, 103, 101, 95, 95]⟩ 167), .none⟩, ⟨PySem.PyData.keyHash w.params ⟨#[95, 95, 108, 111, 97, 100, 101, 114, 95, 95]⟩, (.str ⟨#[95, 95, 108, 111, 97, 100, 101, 114, 95, 95]⟩ 168), (.builtin "__main__.__loader__#opaque")⟩, ⟨PySem.PyData.keyHash w.params ⟨#[95, 95, 115, 112, 101, 99, 95, 95]⟩, (.str ⟨#[95, 95, 115, 112, 101, 99, 95, 95]⟩ 169), .none⟩, ⟨PySem.PyData.keyHash w.params ⟨#[95, 95, 97, 110, 110, 111, 116, 97, 116, 105, 111, 110, 115, 95, 95]⟩, (.str ⟨#[95, 95, 97, 110, 110, 111, 116, 97, 116, 105, 111, 110, 115, 95, 95]⟩ 170), (.ref 6)⟩, ⟨PySem.PyData.keyHash w.params ⟨#[95, 95, 98, 117, 105, 108, 116, 105, 110, 115, 95, 95]⟩, (.str ⟨#[95, 95, 98, 117, 105, 108, 116, 105, 110, 115, 95, 95]⟩ 171), (.ref 4)⟩, ⟨PySem.PyData.keyHash w.params ⟨#[95, 95, 102, 105, 108, 101, 95, 95]⟩, (.str ⟨#[95, 95, 102, 105, 108, 101, 95, 95]⟩ 173), (.str ⟨#[47, 99, 108, 97, 105, 109, 47, 99, 117, 116, 46, 112, 121]⟩ 172)⟩, ⟨PySem.PyData.keyHash w.params ⟨#[95, 95, 99, 97, 99, 104, 101, 100, 95, 95]⟩, (.str ⟨#[95, 95, 99, 97, 99, 104, 101, 100, 95, 95]⟩ 174), .none⟩, ⟨PySem.PyData.keyHash w.params ⟨#[95, 119, 97, 108, 108]⟩, (.str ⟨#[95, 119, 97, 108, 108]⟩ 193), (.ref 21)⟩, ⟨PySem.PyData.keyHash w.params ⟨#[69, 118, 101, 114, 121, 110, 97, 109, 101, 69, 114, 114, 111, 114]⟩, (.str ⟨#[69, 118, 101, 114, 121, 110, 97, 109, 101, 69, 114, 114, 111, 114]⟩ 213), (.ref 31)⟩, ⟨PySem.PyData.keyHash w.params ⟨#[66, 97, 100, 80, 114, 111, 103, 114, 97, 109]⟩, (.str ⟨#[66, 97, 100, 80, 114, 111, 103, 114, 97, 109]⟩ 240), (.ref 53)⟩, ⟨PySem.PyData.keyHash w.params ⟨#[66, 97, 100, 84, 101, 120, 116]⟩, (.str ⟨#[66, 97, 100, 84, 101, 120, 116]⟩ 267), (.ref 74)⟩, ⟨PySem.PyData.keyHash w.params ⟨#[66, 97, 100, 86, 97, 108, 117, 101]⟩, (.str ⟨#[66, 97, 100, 86, 97, 108, 117, 101]⟩ 294), (.ref 95)⟩, ⟨PySem.PyData.keyHash w.params ⟨#[79, 116, 104, 101, 114, 83, 116, 111, 99, 107]⟩, (.str ⟨#[79, 116, 104, 101, 114, 83, 116, 111, 99, 107]⟩ 323), (.ref 116)⟩, ⟨PySem.PyData.keyHash w.params ⟨#[84, 111, 111, 77, 97, 110, 121]⟩, (.str ⟨#[84, 111, 111, 77, 97, 110, 121]⟩ 350), (.ref 137)⟩, ⟨PySem.PyData.keyHash w.params ⟨#[78, 111, 86, 97, 114, 105, 97, 98, 108, 101]⟩, (.str ⟨#[78, 111, 86, 97, 114, 105, 97, 98, 108, 101]⟩ 377), (.ref 158)⟩, ⟨PySem.PyData.keyHash w.params ⟨#[78, 111, 116, 69, 120, 97, 99, 116]⟩, (.str ⟨#[78, 111, 116, 69, 120, 97, 99, 116]⟩ 404), (.ref 179)⟩, ⟨PySem.PyData.keyHash w.params ⟨#[69, 109, 112, 116, 121, 83, 112, 97, 110]⟩, (.str ⟨#[69, 109, 112, 116, 121, 83, 112, 97, 110]⟩ 420), (.ref 191)⟩, ⟨PySem.PyData.keyHash w.params ⟨#[66, 97, 100, 78, 97, 109, 101]⟩, (.str ⟨#[66, 97, 100, 78, 97, 109, 101]⟩ 447), (.ref 212)⟩, ⟨PySem.PyData.keyHash w.params ⟨#[66, 97, 100, 82, 117, 108, 101]⟩, (.str ⟨#[66, 97, 100, 82, 117, 108, 101]⟩ 476), (.ref 233)⟩, ⟨PySem.PyData.keyHash w.params ⟨#[82, 101, 115, 116, 108, 101, 115, 115]⟩, (.str ⟨#[82, 101, 115, 116, 108, 101, 115, 115]⟩ 507), (.ref 254)⟩, ⟨PySem.PyData.keyHash w.params ⟨#[66, 114, 111, 107, 101, 110]⟩, (.str ⟨#[66, 114, 111, 107, 101, 110]⟩ 536), (.ref 275)⟩, ⟨PySem.PyData.keyHash w.params ⟨#[83, 101, 97, 109]⟩, (.str ⟨#[83, 101, 97, 109]⟩ 563), (.ref 296)⟩, ⟨PySem.PyData.keyHash w.params ⟨#[111, 99, 99, 117, 114, 114, 105, 110, 103]⟩, (.str ⟨#[111, 99, 99, 117, 114, 114, 105, 110, 103]⟩ 575), (.ref 305)⟩, ⟨PySem.PyData.keyHash w.params ⟨#[97, 115, 99, 101, 110, 100, 105, 110, 103]⟩, (.str ⟨#[97, 115, 99, 101, 110, 100, 105, 110, 103]⟩ 581), (.ref 310)⟩, ⟨PySem.PyData.keyHash w.params ⟨#[102, 114, 101, 101]⟩, (.str ⟨#[102, 114, 101, 101]⟩ 588), (.ref 317)⟩, ⟨PySem.PyData.keyHash w.params ⟨#[103, 114, 101, 97, 116, 101, 115, 116]⟩, (.str ⟨#[103, 114, 101, 97, 116, 101, 115, 116]⟩ 595), (.ref 324)⟩, ⟨PySem.PyData.keyHash w.params ⟨#[112, 117, 116]⟩, (.str ⟨#[112, 117, 116]⟩ 601), (.ref 329)⟩, ⟨PySem.PyData.keyHash w.params ⟨#[102, 114, 101, 115, 104]⟩, (.str ⟨#[102, 114, 101, 115, 104]⟩ 609), (.ref 336)⟩, ⟨PySem.PyData.keyHash w.params ⟨#[119, 97, 121, 115]⟩, (.str ⟨#[119, 97, 121, 115]⟩ 615), (.ref 341)⟩, ⟨PySem.PyData.keyHash w.params ⟨#[108, 111, 110, 103, 101, 114, 95, 119, 97, 121, 115]⟩, (.str ⟨#[108, 111, 110, 103, 101, 114, 95, 119, 97, 121, 115]⟩ 621), (.ref 346)⟩, ⟨PySem.PyData.keyHash w.params ⟨#[119, 105, 100, 101, 110, 101, 100]⟩, (.str ⟨#[119, 105, 100, 101, 110, 101, 100]⟩ 627), (.ref 351)⟩, ⟨PySem.PyData.keyHash w.params ⟨#[101, 110, 111, 117, 103, 104]⟩, (.str ⟨#[101, 110, 111, 117, 103, 104]⟩ 636), (.ref 358)⟩, ⟨PySem.PyData.keyHash w.params ⟨#[115, 116, 97, 110, 100, 115]⟩, (.str ⟨#[115, 116, 97, 110, 100, 115]⟩ 646), (.ref 365)⟩, ⟨PySem.PyData.keyHash w.params ⟨#[102, 105, 108, 108, 105, 110, 103, 115]⟩, (.str ⟨#[102, 105, 108, 108, 105, 110, 103, 115]⟩ 652), (.ref 370)⟩, ⟨PySem.PyData.keyHash w.params ⟨#[116, 111, 108, 100, 95, 116, 101, 114, 109, 115]⟩, (.str ⟨#[116, 111, 108, 100, 95, 116, 101, 114, 109, 115]⟩ 658), (.ref 375)⟩, ⟨PySem.PyData.keyHash w.params ⟨#[117, 110, 108, 105, 107, 101]⟩, (.str ⟨#[117, 110, 108, 105, 107, 101]⟩ 668), (.ref 382)⟩, ⟨PySem.PyData.keyHash w.params ⟨#[101, 113, 117, 97, 108, 95, 108, 105, 115, 116, 115]⟩, (.str ⟨#[101, 113, 117, 97, 108, 95, 108, 105, 115, 116, 115]⟩ 674), (.ref 387)⟩, ⟨PySem.PyData.keyHash w.params ⟨#[105, 115, 95, 102, 108, 97, 116]⟩, (.str ⟨#[105, 115, 95, 102, 108, 97, 116]⟩ 680), (.ref 392)⟩, ⟨PySem.PyData.keyHash w.params ⟨#[102, 108, 97, 116, 95, 114, 111, 119, 115]⟩, (.str ⟨#[102, 108, 97, 116, 95, 114, 111, 119, 115]⟩ 686), (.ref 397)⟩, ⟨PySem.PyData.keyHash w.params ⟨#[115, 97, 109, 101]⟩, (.str ⟨#[115, 97, 109, 101]⟩ 699), (.ref 404)⟩, ⟨PySem.PyData.keyHash w.params ⟨#[109, 101, 109, 98, 101, 114]⟩, (.str ⟨#[109, 101, 109, 98, 101, 114]⟩ 705), (.ref 409)⟩, ⟨PySem.PyData.keyHash w.params ⟨#[119, 105, 116, 104, 105, 110]⟩, (.str ⟨#[119, 105, 116, 104, 105, 110]⟩ 711), (.ref 414)⟩, ⟨PySem.PyData.keyHash w.params ⟨#[104, 97, 115, 95, 115, 101, 116]⟩, (.str ⟨#[104, 97, 115, 95, 115, 101, 116]⟩ 719), (.ref 421)⟩, ⟨PySem.PyData.keyHash w.params ⟨#[114, 111, 119, 95, 111, 118, 101, 114]⟩, (.str ⟨#[114, 111, 119, 95, 111, 118, 101, 114]⟩ 725), (.ref 426)⟩, ⟨PySem.PyData.keyHash w.params ⟨#[98, 117, 105, 108, 116]⟩, (.str ⟨#[98, 117, 105, 108, 116]⟩ 731), (.ref 431)⟩, ⟨PySem.PyData.keyHash w.params ⟨#[115, 104, 105, 102, 116, 101, 100]⟩, (.str ⟨#[115, 104, 105, 102, 116, 101, 100]⟩ 737), (.ref 436)⟩, ⟨PySem.PyData.keyHash w.params ⟨#[69, 77, 80, 84, 89]⟩, (.str ⟨#[69, 77, 80, 84, 89]⟩ 739), (.ref 439)⟩, ⟨PySem.PyData.keyHash w.params ⟨#[115, 116, 111, 99, 107]⟩, (.str ⟨#[115, 116, 111, 99, 107]⟩ 745), (.ref 444)⟩, ⟨PySem.PyData.keyHash w.params ⟨#[82, 69, 83, 69, 82, 86, 69, 68]⟩, (.str ⟨#[82, 69, 83, 69, 82, 86, 69, 68]⟩ 764), (.ref 445)⟩, ⟨PySem.PyData.keyHash w.params ⟨#[68, 69, 69, 80, 69, 83, 84, 95, 116, 114, 101, 101, 115]⟩, (.str ⟨#[68, 69, 69, 80, 69, 83, 84, 95, 116, 114, 101, 101, 115]⟩ 766), (.int 40 765)⟩, ⟨PySem.PyData.keyHash w.params ⟨#[76, 69, 86, 69, 76, 83]⟩, (.str ⟨#[76, 69, 86, 69, 76, 83]⟩ 768), (.int 10 767)⟩, ⟨PySem.PyData.keyHash w.params ⟨#[71, 82, 69, 65, 84, 69, 83, 84]⟩, (.str ⟨#[71, 82, 69, 65, 84, 69, 83, 84]⟩ 772), (.int 1000000000000000000000000000000000000000000000000000000000000 771)⟩, ⟨PySem.PyData.keyHash w.params ⟨#[83, 73, 71, 78, 83]⟩, (.str ⟨#[83, 73, 71, 78, 83]⟩ 779), (.ref 446)⟩, ⟨PySem.PyData.keyHash w.params ⟨#[80, 76, 65, 73, 78]⟩, (.str ⟨#[80, 76, 65, 73, 78]⟩ 848), (.ref 447)⟩, ⟨PySem.PyData.keyHash w.params ⟨#[105, 115, 95, 119, 111, 114, 100]⟩, (.str ⟨#[105, 115, 95, 119, 111, 114, 100]⟩ 854), (.ref 469)⟩, ⟨PySem.PyData.keyHash w.params ⟨#[105, 115, 95, 110, 97, 109, 101]⟩, (.str ⟨#[105, 115, 95, 110, 97, 109, 101]⟩ 861), (.ref 476)⟩, ⟨PySem.PyData.keyHash w.params ⟨#[112, 97, 116, 116, 101, 114, 110, 95, 118, 97, 114, 105, 97, 98, 108, 101, 115]⟩, (.str ⟨#[112, 97, 116, 116, 101, 114, 110, 95, 118, 97, 114, 105, 97, 98, 108, 101, 115]⟩ 868), (.ref 483)⟩, ⟨PySem.PyData.keyHash w.params ⟨#[103, 111, 111, 100, 95, 112, 97, 116, 116, 101, 114, 110]⟩, (.str ⟨#[103, 111, 111, 100, 95, 112, 97, 116, 116, 101, 114, 110]⟩ 874), (.ref 488)⟩, ⟨PySem.PyData.keyHash w.params ⟨#[103, 111, 111, 100]⟩, (.str ⟨#[103, 111, 111, 100]⟩ 881), (.ref 494)⟩, ⟨PySem.PyData.keyHash w.params ⟨#[103, 111, 111, 100, 95, 101, 120, 112, 114, 101, 115, 115, 105, 111, 110]⟩, (.str ⟨#[103, 111, 111, 100, 95, 101, 120, 112, 114, 101, 115, 115, 105, 111, 110]⟩ 887), (.ref 499)⟩, ⟨PySem.PyData.keyHash w.params ⟨#[103, 111, 111, 100, 95, 103, 97, 116, 104, 101, 114]⟩, (.str ⟨#[103, 111, 111, 100, 95, 103, 97, 116, 104, 101, 114]⟩ 898), (.ref 506)⟩, ⟨PySem.PyData.keyHash w.params ⟨#[103, 111, 111, 100, 95, 116, 101, 115, 116]⟩, (.str ⟨#[103, 111, 111, 100, 95, 116, 101, 115, 116]⟩ 908), (.ref 513)⟩, ⟨PySem.PyData.keyHash w.params ⟨#[103, 111, 111, 100, 95, 104, 101, 97, 100]⟩, (.str ⟨#[103, 111, 111, 100, 95, 104, 101, 97, 100]⟩ 918), (.ref 520)⟩, ⟨PySem.PyData.keyHash w.params ⟨#[119, 114, 111, 110, 103, 95, 112, 108, 97, 99, 101]⟩, (.str ⟨#[119, 114, 111, 110, 103, 95, 112, 108, 97, 99, 101]⟩ 935), (.ref 529)⟩, ⟨PySem.PyData.keyHash w.params ⟨#[102, 114, 101, 101, 95, 118, 97, 114, 105, 97, 98, 108, 101, 115]⟩, (.str ⟨#[102, 114, 101, 101, 95, 118, 97, 114, 105, 97, 98, 108, 101, 115]⟩ 947), (.ref 538)⟩, ⟨PySem.PyData.keyHash w.params ⟨#[106, 111, 105, 110, 101, 100]⟩, (.str ⟨#[106, 111, 105, 110, 101, 100]⟩ 953), (.ref 543)⟩, ⟨PySem.PyData.keyHash w.params ⟨#[115, 116, 97, 116, 101, 95, 118, 97, 114, 105, 97, 98, 108, 101, 115]⟩, (.str ⟨#[115, 116, 97, 116, 101, 95, 118, 97, 114, 105, 97, 98, 108, 101, 115]⟩ 963), (.ref 550)⟩, ⟨PySem.PyData.keyHash w.params ⟨#[86, 65, 76, 85, 69, 95, 83, 73, 71, 78, 83]⟩, (.str ⟨#[86, 65, 76, 85, 69, 95, 83, 73, 71, 78, 83]⟩ 978), (.ref 551)⟩, ⟨PySem.PyData.keyHash w.params ⟨#[84, 69, 83, 84, 95, 83, 73, 71, 78, 83]⟩, (.str ⟨#[84, 69, 83, 84, 95, 83, 73, 71, 78, 83]⟩ 988), (.ref 552)⟩, ⟨PySem.PyData.keyHash w.params ⟨#[78, 85, 77, 66, 69, 82, 95, 83, 73, 71, 78, 83]⟩, (.str ⟨#[78, 85, 77, 66, 69, 82, 95, 83, 73, 71, 78, 83]⟩ 998), (.ref 553)⟩, ⟨PySem.PyData.keyHash w.params ⟨#[67, 79, 77, 80, 65, 82, 69]⟩, (.str ⟨#[67, 79, 77, 80, 65, 82, 69]⟩ 1005), (.ref 554)⟩, ⟨PySem.PyData.keyHash w.params ⟨#[68, 69, 69, 80, 69, 83, 84, 95, 114, 101, 97, 100, 105, 110, 103]⟩, (.str ⟨#[68, 69, 69, 80, 69, 83, 84, 95, 114, 101, 97, 100, 105, 110, 103]⟩ 1007), (.int 40 1006)⟩, ⟨PySem.PyData.keyHash w.params ⟨#[85, 110, 114, 101, 97, 100]⟩, (.str ⟨#[85, 110, 114, 101, 97, 100]⟩ 1038), (.ref 573)⟩, ⟨PySem.PyData.keyHash w.params ⟨#[82, 101, 97, 100, 101, 114]⟩, (.str ⟨#[82, 101, 97, 100, 101, 114]⟩ 1193), (.ref 677)⟩, ⟨PySem.PyData.keyHash w.params ⟨#[98, 114, 97, 99, 107, 101, 116, 101, 100]⟩, (.str ⟨#[98, 114, 97, 99, 107, 101, 116, 101, 100]⟩ 1204), (.ref 688)⟩, ⟨PySem.PyData.keyHash w.params ⟨#[70, 73, 82, 83, 84]⟩, (.str ⟨#[70, 73, 82, 83, 84]⟩ 1208), (.str ⟨#[107, 110, 111, 119, 110]⟩ 1207)⟩, ⟨PySem.PyData.keyHash w.params ⟨#[65, 83, 83, 73, 71, 78, 95, 108, 105, 110, 101, 115]⟩, (.str ⟨#[65, 83, 83, 73, 71, 78, 95, 108, 105, 110, 101, 115]⟩ 1215), (.ref 692)⟩, ⟨PySem.PyData.keyHash w.params ⟨#[114, 101, 97, 100, 95, 108, 105, 110, 101, 115]⟩, (.str ⟨#[114, 101, 97, 100, 95, 108, 105, 110, 101, 115]⟩ 1226), (.ref 699)⟩, ⟨PySem.PyData.keyHash w.params ⟨#[114, 101, 97, 100, 95, 107, 110, 111, 119, 110]⟩, (.str ⟨#[114, 101, 97, 100, 95, 107, 110, 111, 119, 110]⟩ 1232), (.ref 704)⟩, ⟨PySem.PyData.keyHash w.params ⟨#[105, 110, 100, 101, 110, 116, 97, 116, 105, 111, 110]⟩, (.str ⟨#[105, 110, 100, 101, 110, 116, 97, 116, 105, 111, 110]⟩ 1239), (.ref 711)⟩, ⟨PySem.PyData.keyHash w.params ⟨#[114, 101, 97, 100, 95, 98, 108, 111, 99, 107]⟩, (.str ⟨#[114, 101, 97, 100, 95, 98, 108, 111, 99, 107]⟩ 1251), (.ref 718)⟩, ⟨PySem.PyData.keyHash w.params ⟨#[114, 101, 97, 100, 95, 115, 116, 97, 116, 101, 109, 101, 110, 116]⟩, (.str ⟨#[114, 101, 97, 100, 95, 115, 116, 97, 116, 101, 109, 101, 110, 116]⟩ 1267), (.ref 725)⟩, ⟨PySem.PyData.keyHash w.params ⟨#[114, 101, 97, 100, 95, 105, 110, 110, 101, 114]⟩, (.str ⟨#[114, 101, 97, 100, 95, 105, 110, 110, 101, 114]⟩ 1278), (.ref 732)⟩, ⟨PySem.PyData.keyHash w.params ⟨#[114, 101, 97, 100, 95, 104, 101, 97, 100]⟩, (.str ⟨#[114, 101, 97, 100, 95, 104, 101, 97, 100]⟩ 1294), (.ref 739)⟩, ⟨PySem.PyData.keyHash w.params ⟨#[104, 101, 97, 100, 95, 111, 102]⟩, (.str ⟨#[104, 101, 97, 100, 95, 111, 102]⟩ 1305), (.ref 746)⟩, ⟨PySem.PyData.keyHash w.params ⟨#[83, 73, 71, 78, 95, 79, 70]⟩, (.str ⟨#[83, 73, 71, 78, 95, 79, 70]⟩ 1344), (.ref 747)⟩, ⟨PySem.PyData.keyHash w.params ⟨#[65, 83, 83, 73, 71, 78, 95, 119, 114, 105, 116, 105, 110, 103]⟩, (.str ⟨#[65, 83, 83, 73, 71, 78, 95, 119, 114, 105, 116, 105, 110, 103]⟩ 1354), (.ref 748)⟩, ⟨PySem.PyData.keyHash w.params ⟨#[112, 97, 116, 116, 101, 114, 110, 95, 116, 101, 120, 116]⟩, (.str ⟨#[112, 97, 116, 116, 101, 114, 110, 95, 116, 101, 120, 116]⟩ 1361), (.ref 755)⟩, ⟨PySem.PyData.keyHash w.params ⟨#[116, 114, 101, 101, 95, 116, 101, 120, 116]⟩, (.str ⟨#[116, 114, 101, 101, 95, 116, 101, 120, 116]⟩ 1367), (.ref 760)⟩, ⟨PySem.PyData.keyHash w.params ⟨#[103, 97, 116, 104, 101, 114, 95, 116, 101, 120, 116]⟩, (.str ⟨#[103, 97, 116, 104, 101, 114, 95, 116, 101, 120, 116]⟩ 1373), (.ref 765)⟩, ⟨PySem.PyData.keyHash w.params ⟨#[115, 116, 97, 116, 101, 109, 101, 110, 116, 95, 108, 105, 110, 101, 115]⟩, (.str ⟨#[115, 116, 97, 116, 101, 109, 101, 110, 116, 95, 108, 105, 110, 101, 115]⟩ 1379), (.ref 770)⟩, ⟨PySem.PyData.keyHash w.params ⟨#[108, 105, 110, 101, 115, 95, 111, 102]⟩, (.str ⟨#[108, 105, 110, 101, 115, 95, 111, 102]⟩ 1390), (.ref 777)⟩, ⟨PySem.PyData.keyHash w.params ⟨#[112, 114, 111, 103, 114, 97, 109, 95, 116, 101, 120, 116]⟩, (.str ⟨#[112, 114, 111, 103, 114, 97, 109, 95, 116, 101, 120, 116]⟩ 1399), (.ref 784)⟩, ⟨PySem.PyData.keyHash w.params ⟨#[80, 114, 111, 103, 114, 97, 109]⟩, (.str ⟨#[80, 114, 111, 103, 114, 97, 109]⟩ 1493), (.ref 848)⟩, ⟨PySem.PyData.keyHash w.params ⟨#[99, 104, 97, 105, 110, 101, 100]⟩, (.str ⟨#[99, 104, 97, 105, 110, 101, 100]⟩ 1499), (.ref 857)⟩, ⟨PySem.PyData.keyHash w.params ⟨#[105, 115, 95, 119, 104, 111, 108, 101]⟩, (.str ⟨#[105, 115, 95, 119, 104, 111, 108, 101]⟩ 1508), (.ref 864)⟩, ⟨PySem.PyData.keyHash w.params ⟨#[119, 104, 111, 108, 101, 95, 108, 105, 115, 116]⟩, (.str ⟨#[119, 104, 111, 108, 101, 95, 108, 105, 115, 116]⟩ 1514), (.ref 869)⟩, ⟨PySem.PyData.keyHash w.params ⟨#[116, 114, 105, 109, 109, 101, 100]⟩, (.str ⟨#[116, 114, 105, 109, 109, 101, 100]⟩ 1522), (.ref 876)⟩, ⟨PySem.PyData.keyHash w.params ⟨#[119, 104, 111, 108, 101, 95, 114, 111, 119]⟩, (.str ⟨#[119, 104, 111, 108, 101, 95, 114, 111, 119]⟩ 1529), (.ref 883)⟩, ⟨PySem.PyData.keyHash w.params ⟨#[114, 111, 119, 95, 118, 97, 108, 117, 101]⟩, (.str ⟨#[114, 111, 119, 95, 118, 97, 108, 117, 101]⟩ 1541), (.ref 890)⟩, ⟨PySem.PyData.keyHash w.params ⟨#[100, 105, 102, 102, 101, 114, 101, 110, 99, 101, 115]⟩, (.str ⟨#[100, 105, 102, 102, 101, 114, 101, 110, 99, 101, 115]⟩ 1547), (.ref 895)⟩, ⟨PySem.PyData.keyHash w.params ⟨#[114, 111, 119, 95, 109, 111, 118, 101, 100]⟩, (.str ⟨#[114, 111, 119, 95, 109, 111, 118, 101, 100]⟩ 1553), (.ref 900)⟩, ⟨PySem.PyData.keyHash w.params ⟨#[110, 101, 103, 97, 116, 101, 100]⟩, (.str ⟨#[110, 101, 103, 97, 116, 101, 100]⟩ 1559), (.ref 905)⟩, ⟨PySem.PyData.keyHash w.params ⟨#[97, 100, 100, 95, 114, 111, 119, 115]⟩, (.str ⟨#[97, 100, 100, 95, 114, 111, 119, 115]⟩ 1565), (.ref 910)⟩, ⟨PySem.PyData.keyHash w.params ⟨#[116, 97, 107, 101, 95, 114, 111, 119, 115]⟩, (.str ⟨#[116, 97, 107, 101, 95, 114, 111, 119, 115]⟩ 1573), (.ref 917)⟩, ⟨PySem.PyData.keyHash w.params ⟨#[109, 117, 108, 116, 105, 112, 108, 121, 95, 114, 111, 119, 115]⟩, (.str ⟨#[109, 117, 108, 116, 105, 112, 108, 121, 95, 114, 111, 119, 115]⟩ 1579), (.ref 922)⟩, ⟨PySem.PyData.keyHash w.params ⟨#[102, 97, 108, 108, 105, 110, 103, 95, 114, 111, 119]⟩, (.str ⟨#[102, 97, 108, 108, 105, 110, 103, 95, 114, 111, 119]⟩ 1589), (.ref 929)⟩, ⟨PySem.PyData.keyHash w.params ⟨#[115, 105, 103, 110, 95, 111, 102]⟩, (.str ⟨#[115, 105, 103, 110, 95, 111, 102]⟩ 1596), (.ref 936)⟩, ⟨PySem.PyData.keyHash w.params ⟨#[102, 105, 114, 115, 116, 95, 102, 114, 111, 109]⟩, (.str ⟨#[102, 105, 114, 115, 116, 95, 102, 114, 111, 109]⟩ 1608), (.ref 943)⟩, ⟨PySem.PyData.keyHash w.params ⟨#[99, 117, 116, 95, 98, 121, 95, 115, 105, 103, 110]⟩, (.str ⟨#[99, 117, 116, 95, 98, 121, 95, 115, 105, 103, 110]⟩ 1614), (.ref 948)⟩, ⟨PySem.PyData.keyHash w.params ⟨#[106, 111, 105, 110, 101, 100, 95, 115, 105, 103, 110, 115]⟩, (.str ⟨#[106, 111, 105, 110, 101, 100, 95, 115, 105, 103, 110, 115]⟩ 1625), (.ref 955)⟩, ⟨PySem.PyData.keyHash w.params ⟨#[115, 105, 103, 110, 115, 95, 111, 102]⟩, (.str ⟨#[115, 105, 103, 110, 115, 95, 111, 102]⟩ 1631), (.ref 960)⟩, ⟨PySem.PyData.keyHash w.params ⟨#[108, 101, 97, 115, 116, 95, 115, 105, 103, 110]⟩, (.str ⟨#[108, 101, 97, 115, 116, 95, 115, 105, 103, 110]⟩ 1637), (.ref 965)⟩, ⟨PySem.PyData.keyHash w.params ⟨#[114, 111, 119, 95, 111, 102]⟩, (.str ⟨#[114, 111, 119, 95, 111, 102]⟩ 1644), (.ref 972)⟩, ⟨PySem.PyData.keyHash w.params ⟨#[83, 105, 122, 101]⟩, (.str ⟨#[83, 105, 122, 101]⟩ 1887), (.ref 1152)⟩, ⟨PySem.PyData.keyHash w.params ⟨#[85, 78, 73, 79, 78]⟩, (.str ⟨#[85, 78, 73, 79, 78]⟩ 1890), (.ref 1157)⟩, ⟨PySem.PyData.keyHash w.params ⟨#[77, 69, 69, 84]⟩, (.str ⟨#[77, 69, 69, 84]⟩ 1891), (.ref 1158)⟩, ⟨PySem.PyData.keyHash w.params ⟨#[87, 73, 84, 72, 79, 85, 84]⟩, (.str ⟨#[87, 73, 84, 72, 79, 85, 84]⟩ 1892), (.ref 1159)⟩, ⟨PySem.PyData.keyHash w.params ⟨#[69, 73, 84, 72, 69, 82]⟩, (.str ⟨#[69, 73, 84, 72, 69, 82]⟩ 1893), (.ref 1160)⟩, ⟨PySem.PyData.keyHash w.params ⟨#[69, 86, 69, 82, 89]⟩, (.str ⟨#[69, 86, 69, 82, 89]⟩ 1895), (.ref 1162)⟩, ⟨PySem.PyData.keyHash w.params ⟨#[105, 115, 95, 115, 116, 114, 101, 116, 99, 104]⟩, (.str ⟨#[105, 115, 95, 115, 116, 114, 101, 116, 99, 104]⟩ 1904), (.ref 1169)⟩, ⟨PySem.PyData.keyHash w.params ⟨#[116, 117, 114, 110, 105, 110, 103, 95, 112, 111, 105, 110, 116, 115]⟩, (.str ⟨#[116, 117, 114, 110, 105, 110, 103, 95, 112, 111, 105, 110, 116, 115]⟩ 1910), (.ref 1174)⟩, ⟨PySem.PyData.keyHash w.params ⟨#[112, 97, 105, 114, 101, 100]⟩, (.str ⟨#[112, 97, 105, 114, 101, 100]⟩ 1916), (.ref 1179)⟩, ⟨PySem.PyData.keyHash w.params ⟨#[99, 111, 109, 98, 105, 110, 101, 100]⟩, (.str ⟨#[99, 111, 109, 98, 105, 110, 101, 100]⟩ 1931), (.ref 1186)⟩, ⟨PySem.PyData.keyHash w.params ⟨#[115, 112, 97, 110, 95, 109, 111, 118, 101, 100]⟩, (.str ⟨#[115, 112, 97, 110, 95, 109, 111, 118, 101, 100]⟩ 1937), (.ref 1191)⟩, ⟨PySem.PyData.keyHash w.params ⟨#[108, 105, 101, 115, 95, 105, 110]⟩, (.str ⟨#[108, 105, 101, 115, 95, 105, 110]⟩ 1943), (.ref 1196)⟩, ⟨PySem.PyData.keyHash w.params ⟨#[115, 116, 114, 101, 116, 99, 104, 95, 116, 101, 120, 116]⟩, (.str ⟨#[115, 116, 114, 101, 116, 99, 104, 95, 116, 101, 120, 116]⟩ 1951), (.ref 1203)⟩] 129), #[]⟩, boot_o_4 w.params, boot_o_5 w.params, boot_o_6 w.params, boot_o_7 w.params, boot_o_8 w.params, boot_o_9 w.params, boot_o_10 w.params, ⟨(.type "tuple"), none, (.seq #[] 0), #[]⟩, ⟨.none, none, (.fields #[(.int 1 0), (.int 0 0), (.ref 20), (.int 5 0), (.int 0 0), (.ref 27), (.int 7 0), (.int 0 0), (.ref 41), (.int 12 0), (.int 0 0), (.ref 62), (.int 17 0), (.int 0 0), (.ref 83), (.int 22 0), (.int 0 0), (.ref 104), (.int 28 0), (.int 0 0), (.ref 125), (.int 33 0), (.int 0 0), (.ref 146), (.int 38 0), (.int 0 0), (.ref 167), (.int 43 0), (.int 0 0), (.ref 187), (.int 45 0), (.int 0 0), (.ref 200), (.int 50 0), (.int 0 0), (.ref 221), (.int 56 0), (.int 0 0), (.ref 242), (.int 63 0), (.int 0 0), (.ref 263), (.int 69 0), (.int 0 0), (.ref 284), (.int 75 0), (.int 0 0), (.ref 304), (.int 87 0), (.int 0 0), (.ref 309), (.int 89 0), (.int 0 0), (.ref 316), (.int 91 0), (.int 0 0), (.ref 323), (.int 93 0), (.int 0 0), (.ref 328), (.int 107 0), (.int 0 0), (.ref 335), (.int 109 0), (.int 0 0), (.ref 340), (.int 114 0), (.int 0 0), (.ref 345), (.int 117 0), (.int 0 0), (.ref 350), (.int 124 0), (.int 0 0), (.ref 357), (.int 130 0), (.int 0 0), (.ref 364), (.int 132 0), (.int 0 0), (.ref 369), (.int 136 0), (.int 0 0), (.ref 374), (.int 141 0), (.int 0 0), (.ref 381), (.int 155 0), (.int 0 0), (.ref 386), (.int 157 0), (.int 0 0), (.ref 391), (.int 159 0), (.int 0 0), (.ref 396), (.int 161 0), (.int 0 0), (.ref 403), (.int 175 0), (.int 0 0), (.ref 408), (.int 187 0), (.int 0 0), (.ref 413), (.int 198 0), (.int 0 0), (.ref 420), (.int 204 0), (.int 0 0), (.ref 425), (.int 208 0), (.int 0 0), (.ref 430), (.int 223 0), (.int 0 0), (.ref 435), (.int 235 0), (.int 0 0), (.ref 443), (.int 244 0), (.int 0 0), (.ref 468), (.int 248 0), (.int 0 0), (.ref 475), (.int 250 0), (.int 0 0), (.ref 482), (.int 254 0), (.int 0 0), (.ref 487), (.int 263 0), (.int 0 0), (.ref 493), (.int 279 0), (.int 0 0), (.ref 498), (.int 292 0), (.int 0 0), (.ref 505), (.int 302 0), (.int 0 0), (.ref 512), (.int 312 0), (.int 0 0), (.ref 519), (.int 326 0), (.int 0 0), (.ref 528), (.int 337 0), (.int 0 0), (.ref 537), (.int 353 0), (.int 0 0), (.ref 542), (.int 355 0), (.int 0 0), (.ref 549), (.int 372 0), (.int 0 0), (.ref 561), (.int 377 0), (.int 0 0), (.ref 582), (.int 527 0), (.int 0 0), (.ref 687), (.int 542 0), (.int 0 0), (.ref 698), (.int 551 0), (.int 0 0), (.ref 703), (.int 560 0), (.int 0 0), (.ref 710), (.int 562 0), (.int 0 0), (.ref 717), (.int 568 0), (.int 0 0), (.ref 724), (.int 581 0), (.int 0 0), (.ref 731), (.int 587 0), (.int 0 0), (.ref 738), (.int 600 0), (.int 0 0), (.ref 745), (.int 617 0), (.int 0 0), (.ref 754), (.int 621 0), (.int 0 0), (.ref 759), (.int 646 0), (.int 0 0), (.ref 764), (.int 650 0), (.int 0 0), (.ref 769), (.int 652 0), (.int 0 0), (.ref 776), (.int 661 0), (.int 0 0), (.ref 783), (.int 665 0), (.int 0 0), (.ref 790), (.int 701 0), (.int 0 0), (.ref 856), (.int 705 0), (.int 0 0), (.ref 863), (.int 707 0), (.int 0 0), (.ref 868), (.int 709 0), (.int 0 0), (.ref 875), (.int 714 0), (.int 0 0), (.ref 882), (.int 716 0), (.int 0 0), (.ref 889), (.int 723 0), (.int 0 0), (.ref 894), (.int 730 0), (.int 0 0), (.ref 899), (.int 732 0), (.int 0 0), (.ref 904), (.int 734 0), (.int 0 0), (.ref 909), (.int 739 0), (.int 0 0), (.ref 916), (.int 741 0), (.int 0 0), (.ref 921), (.int 745 0), (.int 0 0), (.ref 928), (.int 750 0), (.int 0 0), (.ref 935), (.int 752 0), (.int 0 0), (.ref 942), (.int 765 0), (.int 0 0), (.ref 947), (.int 774 0), (.int 0 0), (.ref 954), (.int 782 0), (.int 0 0), (.ref 959), (.int 788 0), (.int 0 0), (.ref 964), (.int 790 0), (.int 0 0), (.ref 971), (.int 796 0), (.int 0 0), (.ref 978), (.int 922 0), (.int 0 0), (.ref 1168), (.int 929 0), (.int 0 0), (.ref 1173), (.int 931 0), (.int 0 0), (.ref 1178), (.int 934 0), (.int 0 0), (.ref 1185), (.int 952 0), (.int 0 0), (.ref 1190), (.int 955 0), (.int 0 0), (.ref 1195), (.int 957 0), (.int 0 0), (.ref 1202)]), #[]⟩, ⟨(.type "code"), none, (.fields #[(.str ⟨#[60, 109, 111, 100, 117, 108, 101, 62]⟩ 182), (.str ⟨#[60, 109, 111, 100, 117, 108, 101, 62]⟩ 183), (.str ⟨#[47, 99, 108, 97, 105, 109, 47, 99, 117, 116, 46, 112, 121]⟩ 184), (.int 1 0), (.int 0 0), (.int 0 0), (.int 0 0), (.int 0 0), (.ref 11), (.bool false), (.int 181 0), (.ref 12), .none, .none, .none, .none, (.int 185 0), (.int 1 0), (.str ⟨#[47, 99, 108, 97, 105, 109, 47, 99, 117, 116, 46, 112, 121]⟩ 186)]), #[]⟩, ⟨(.type "frame"), none, .plain, #[(some (.ref 13)), (some (.ref 3)), (some (.ref 3)), none, (some (.str ⟨#[95, 95, 109, 97, 105, 110, 95, 95]⟩ 164)), none, (some (.ref 0))]⟩]
def O9 : List Nat := [29, 30, 31, 32, 38, 49, 50, 51, 52, 53, 197, 208, 209, 210, 211, 212, 281, 292, 293, 294, 295, 296, 437, 438, 439, 443, 444, 445, 468, 469, 475, 476, 521, 522, 528, 529, 542, 543, 549, 550, 769, 770, 783, 784, 792, 793, 794, 798, 799, 805, 806, 808, 815, 816, 817, 823, 824, 830, 831, 837, 838, 844, 845, 846, 847, 848, 849, 850, 875, 876, 882, 883, 889, 890]
def A9 : List Nat := []
def G9 (p : Program) (w : World) : List Obj := []
theorem grp9 (w : World) (os : OsState) (g : Nat → Obj) : grpO (HandSHeadRun.stepQ (HandSHeadRun.denQ HandSHeadRun.tabQ) PySem.W.Fast.tw10313853756172224601 w) 1534 (O9 ++ A9) (boot_heap w.params).life boot_drawn 1645 os (F8 w ++ (List.range 958).map fun i => g (15 + i)) (piecesOf (((((((((((((((((((PySem.W.Fast.tw10313853756172224601).main.body).drop 16)).drop 33)).drop 1)).drop 14)).drop 3)).drop 17)).drop 2)).drop 29)).take 14) (envA PySem.W.Fast.tw10313853756172224601 13 14) (codeA PySem.W.Fast.tw10313853756172224601 13 14) ⟨790, 0, 795, 15⟩ [topFrame ⟨0, 0, 0, 0⟩]) =
    some (.next, (codeA PySem.W.Fast.tw10313853756172224601 13 14), ⟨957, 0, 960, 55⟩, 1204, (boot_heap w.params).life, 0, boot_drawn, 1952, os, (F9 w).map some, (O9.map g ++ G9 PySem.W.Fast.tw10313853756172224601 w).map some) := by kernel_rfl
def F10 (w : World) : List Obj := [boot_o_0 w.params, boot_o_1 w.params, ⟨.none, none, (.dict #[⟨PySem.PyData.keyHash w.params ⟨#[116, 121, 112, 101, 46, 95, 95, 115, 117, 98, 99, 108, 97, 115, 115, 101, 115, 95, 95, 46, 69, 120, 99, 101, 112, 116, 105, 111, 110, 46, 48]⟩, (.str ⟨#[116, 121, 112, 101, 46, 95, 95, 115, 117, 98, 99, 108, 97, 115, 115, 101, 115, 95, 95, 46, 69, 120, 99, 101, 112, 116, 105, 111, 110, 46, 48]⟩ 1035), (.int 573 0)⟩, ⟨PySem.PyData.keyHash w.params ⟨#[116, 121, 112, 101, 46, 95, 95, 115, 117, 98, 99, 108, 97, 115, 115, 101, 115, 95, 95, 46, 69, 120, 99, 101, 112, 116, 105, 111, 110, 46, 110]⟩, (.str ⟨#[116, 121, 112, 101, 46, 95, 95, 115, 117, 98, 99, 108, 97, 115, 115, 101, 115, 95, 95, 46, 69, 120, 99, 101, 112, 116, 105, 111, 110, 46, 110]⟩ 1036), (.int 1 0)⟩] 2), #[]⟩, ⟨(.type "dict"), none, (.dict #[⟨PySem.PyData.keyHash w.params ⟨#[95, 95, 110, 97, 109, 101, 95, 95]⟩, (.str ⟨#[95, 95, 110, 97, 109, 101, 95, 95]⟩ 165), (.str ⟨#[101, 118, 101, 114, 121, 110, 97, 109, 101, 46, 116, 97, 108, 108, 105, 101, 115]⟩ 2211)⟩, ⟨PySem.PyData.keyHash w.params ⟨#[95, 95, 100, 111, 99, 95, 95]⟩, (.str ⟨#[95, 95, 100, 111, 99, 95, 95]⟩ 166), .none⟩, ⟨PySem.PyData.keyHash w.params ⟨#[95, 95, 112, 97, 99, 107, 97, 103, 101, 95, 95]⟩, (.str ⟨#[95, 95, 112, 97, 99, 107, 97, 103, 101, 95, 95]⟩ 167), .none⟩, ⟨PySem.PyData.keyHash w.params ⟨#[95, 95, 108, 111, 97, 100, 101, 114, 95, 95]⟩, (.str ⟨#[95, 95, 108, 111, 97, 100, 101, 114, 95, 95]⟩ 168), (.builtin "__main__.__loader__#opaque")⟩, ⟨PySem.PyData.keyHash w.params ⟨#[95, 95, 115, 112, 101, 99, 95, 95]⟩, (.str ⟨#[95, 95, 115, 112, 101, 99, 95, 95]⟩ 169), .none⟩, ⟨PySem.PyData.keyHash w.params ⟨#[95, 95, 97, 110, 110, 111, 116, 97, 116, 105, 111, 110, 115, 95, 95]⟩, (.str ⟨#[95, 95, 97, 110, 110, 111, 116, 97, 116, 105, 111, 110, 115, 95, 95]⟩ 170), (.ref 6)⟩, ⟨PySem.PyData.keyHash w.params ⟨#[95, 95, 98, 117, 105, 108, 116, 105, 110, 115, 95, 95]⟩, (.str ⟨#[95, 95, 98, 117, 105, 108, 116, 105, 110, 115, 95, 95]⟩ 171), (.ref 4)⟩, ⟨PySem.PyData.keyHash w.params ⟨#[95, 95, 102, 105, 108, 101, 95, 95]⟩, (.str ⟨#[95, 95, 102, 105, 108, 101, 95, 95]⟩ 173), (.str ⟨#[47, 99, 108, 97, 105, 109, 47, 99, 117, 116, 46, 112, 121]⟩ 172)⟩, ⟨PySem.PyData.keyHash w.params ⟨#[95, 95, 99, 97, 99, 104, 101, 100, 95, 95]⟩, (.str ⟨#[95, 95, 99, 97, 99, 104, 101, 100, 95, 95]⟩ 174), .none⟩, ⟨PySem.PyData.keyHash w.params ⟨#[95, 119, 97, 108, 108]⟩, (.str ⟨#[95, 119, 97, 108, 108]⟩ 193), (.ref 21)⟩, ⟨PySem.PyData.keyHash w.params ⟨#[69, 118, 101, 114, 121, 110, 97, 109, 101, 69, 114, 114, 111, 114]⟩, (.str ⟨#[69, 118, 101, 114, 121, 110, 97, 109, 101, 69, 114, 114, 111, 114]⟩ 213), (.ref 31)⟩, ⟨PySem.PyData.keyHash w.params ⟨#[66, 97, 100, 80, 114, 111, 103, 114, 97, 109]⟩, (.str ⟨#[66, 97, 100, 80, 114, 111, 103, 114, 97, 109]⟩ 240), (.ref 53)⟩, ⟨PySem.PyData.keyHash w.params ⟨#[66, 97, 100, 84, 101, 120, 116]⟩, (.str ⟨#[66, 97, 100, 84, 101, 120, 116]⟩ 267), (.ref 74)⟩, ⟨PySem.PyData.keyHash w.params ⟨#[66, 97, 100, 86, 97, 108, 117, 101]⟩, (.str ⟨#[66, 97, 100, 86, 97, 108, 117, 101]⟩ 294), (.ref 95)⟩, ⟨PySem.PyData.keyHash w.params ⟨#[79, 116, 104, 101, 114, 83, 116, 111, 99, 107]⟩, (.str ⟨#[79, 116, 104, 101, 114, 83, 116, 111, 99, 107]⟩ 323), (.ref 116)⟩, ⟨PySem.PyData.keyHash w.params ⟨#[84, 111, 111, 77, 97, 110, 121]⟩, (.str ⟨#[84, 111, 111, 77, 97, 110, 121]⟩ 350), (.ref 137)⟩, ⟨PySem.PyData.keyHash w.params ⟨#[78, 111, 86, 97, 114, 105, 97, 98, 108, 101]⟩, (.str ⟨#[78, 111, 86, 97, 114, 105, 97, 98, 108, 101]⟩ 377), (.ref 158)⟩, ⟨PySem.PyData.keyHash w.params ⟨#[78, 111, 116, 69, 120, 97, 99, 116]⟩, (.str ⟨#[78, 111, 116, 69, 120, 97, 99, 116]⟩ 404), (.ref 179)⟩, ⟨PySem.PyData.keyHash w.params ⟨#[69, 109, 112, 116, 121, 83, 112, 97, 110]⟩, (.str ⟨#[69, 109, 112, 116, 121, 83, 112, 97, 110]⟩ 420), (.ref 191)⟩, ⟨PySem.PyData.keyHash w.params ⟨#[66, 97, 100, 78, 97, 109, 101]⟩, (.str ⟨#[66, 97, 100, 78, 97, 109, 101]⟩ 447), (.ref 212)⟩, ⟨PySem.PyData.keyHash w.params ⟨#[66, 97, 100, 82, 117, 108, 101]⟩, (.str ⟨#[66, 97, 100, 82, 117, 108, 101]⟩ 476), (.ref 233)⟩, ⟨PySem.PyData.keyHash w.params ⟨#[82, 101, 115, 116, 108, 101, 115, 115]⟩, (.str ⟨#[82, 101, 115, 116, 108, 101, 115, 115]⟩ 507), (.ref 254)⟩, ⟨PySem.PyData.keyHash w.params ⟨#[66, 114, 111, 107, 101, 110]⟩, (.str ⟨#[66, 114, 111, 107, 101, 110]⟩ 536), (.ref 275)⟩, ⟨PySem.PyData.keyHash w.params ⟨#[83, 101, 97, 109]⟩, (.str ⟨#[83, 101, 97, 109]⟩ 563), (.ref 296)⟩, ⟨PySem.PyData.keyHash w.params ⟨#[111, 99, 99, 117, 114, 114, 105, 110, 103]⟩, (.str ⟨#[111, 99, 99, 117, 114, 114, 105, 110, 103]⟩ 575), (.ref 305)⟩, ⟨PySem.PyData.keyHash w.params ⟨#[97, 115, 99, 101, 110, 100, 105, 110, 103]⟩, (.str ⟨#[97, 115, 99, 101, 110, 100, 105, 110, 103]⟩ 581), (.ref 310)⟩, ⟨PySem.PyData.keyHash w.params ⟨#[102, 114, 101, 101]⟩, (.str ⟨#[102, 114, 101, 101]⟩ 588), (.ref 317)⟩, ⟨PySem.PyData.keyHash w.params ⟨#[103, 114, 101, 97, 116, 101, 115, 116]⟩, (.str ⟨#[103, 114, 101, 97, 116, 101, 115, 116]⟩ 595), (.ref 324)⟩, ⟨PySem.PyData.keyHash w.params ⟨#[112, 117, 116]⟩, (.str ⟨#[112, 117, 116]⟩ 601), (.ref 329)⟩, ⟨PySem.PyData.keyHash w.params ⟨#[102, 114, 101, 115, 104]⟩, (.str ⟨#[102, 114, 101, 115, 104]⟩ 609), (.ref 336)⟩, ⟨PySem.PyData.keyHash w.params ⟨#[119, 97, 121, 115]⟩, (.str ⟨#[119, 97, 121, 115]⟩ 615), (.ref 341)⟩, ⟨PySem.PyData.keyHash w.params ⟨#[108, 111, 110, 103, 101, 114, 95, 119, 97, 121, 115]⟩, (.str ⟨#[108, 111, 110, 103, 101, 114, 95, 119, 97, 121, 115]⟩ 621), (.ref 346)⟩, ⟨PySem.PyData.keyHash w.params ⟨#[119, 105, 100, 101, 110, 101, 100]⟩, (.str ⟨#[119, 105, 100, 101, 110, 101, 100]⟩ 627), (.ref 351)⟩, ⟨PySem.PyData.keyHash w.params ⟨#[101, 110, 111, 117, 103, 104]⟩, (.str ⟨#[101, 110, 111, 117, 103, 104]⟩ 636), (.ref 358)⟩, ⟨PySem.PyData.keyHash w.params ⟨#[115, 116, 97, 110, 100, 115]⟩, (.str ⟨#[115, 116, 97, 110, 100, 115]⟩ 646), (.ref 365)⟩, ⟨PySem.PyData.keyHash w.params ⟨#[102, 105, 108, 108, 105, 110, 103, 115]⟩, (.str ⟨#[102, 105, 108, 108, 105, 110, 103, 115]⟩ 652), (.ref 370)⟩, ⟨PySem.PyData.keyHash w.params ⟨#[116, 111, 108, 100, 95, 116, 101, 114, 109, 115]⟩, (.str ⟨#[116, 111, 108, 100, 95, 116, 101, 114, 109, 115]⟩ 658), (.ref 375)⟩, ⟨PySem.PyData.keyHash w.params ⟨#[117, 110, 108, 105, 107, 101]⟩, (.str ⟨#[117, 110, 108, 105, 107, 101]⟩ 668), (.ref 382)⟩, ⟨PySem.PyData.keyHash w.params ⟨#[101, 113, 117, 97, 108, 95, 108, 105, 115, 116, 115]⟩, (.str ⟨#[101, 113, 117, 97, 108, 95, 108, 105, 115, 116, 115]⟩ 674), (.ref 387)⟩, ⟨PySem.PyData.keyHash w.params ⟨#[105, 115, 95, 102, 108, 97, 116]⟩, (.str ⟨#[105, 115, 95, 102, 108, 97, 116]⟩ 680), (.ref 392)⟩, ⟨PySem.PyData.keyHash w.params ⟨#[102, 108, 97, 116, 95, 114, 111, 119, 115]⟩, (.str ⟨#[102, 108, 97, 116, 95, 114, 111, 119, 115]⟩ 686), (.ref 397)⟩, ⟨PySem.PyData.keyHash w.params ⟨#[115, 97, 109, 101]⟩, (.str ⟨#[115, 97, 109, 101]⟩ 699), (.ref 404)⟩, ⟨PySem.PyData.keyHash w.params ⟨#[109, 101, 109, 98, 101, 114]⟩, (.str ⟨#[109, 101, 109, 98, 101, 114]⟩ 705), (.ref 409)⟩, ⟨PySem.PyData.keyHash w.params ⟨#[119, 105, 116, 104, 105, 110]⟩, (.str ⟨#[119, 105, 116, 104, 105, 110]⟩ 711), (.ref 414)⟩, ⟨PySem.PyData.keyHash w.params ⟨#[104, 97, 115, 95, 115, 101, 116]⟩, (.str ⟨#[104, 97, 115, 95, 115, 101, 116]⟩ 719), (.ref 421)⟩, ⟨PySem.PyData.keyHash w.params ⟨#[114, 111, 119, 95, 111, 118, 101, 114]⟩, (.str ⟨#[114, 111, 119, 95, 111, 118, 101, 114]⟩ 725), (.ref 426)⟩, ⟨PySem.PyData.keyHash w.params ⟨#[98, 117, 105, 108, 116]⟩, (.str ⟨#[98, 117, 105, 108, 116]⟩ 731), (.ref 431)⟩, ⟨PySem.PyData.keyHash w.params ⟨#[115, 104, 105, 102, 116, 101, 100]⟩, (.str ⟨#[115, 104, 105, 102, 116, 101, 100]⟩ 737), (.ref 436)⟩, ⟨PySem.PyData.keyHash w.params ⟨#[69, 77, 80, 84, 89]⟩, (.str ⟨#[69, 77, 80, 84, 89]⟩ 739), (.ref 439)⟩, ⟨PySem.PyData.keyHash w.params ⟨#[115, 116, 111, 99, 107]⟩, (.str ⟨#[115, 116, 111, 99, 107]⟩ 745), (.ref 444)⟩, ⟨PySem.PyData.keyHash w.params ⟨#[82, 69, 83, 69, 82, 86, 69, 68]⟩, (.str ⟨#[82, 69, 83, 69, 82, 86, 69, 68]⟩ 764), (.ref 445)⟩, ⟨PySem.PyData.keyHash w.params ⟨#[68, 69, 69, 80, 69, 83, 84, 95, 116, 114, 101, 101, 115]⟩, (.str ⟨#[68, 69, 69, 80, 69, 83, 84, 95, 116, 114, 101, 101, 115]⟩ 766), (.int 40 765)⟩, ⟨PySem.PyData.keyHash w.params ⟨#[76, 69, 86, 69, 76, 83]⟩, (.str ⟨#[76, 69, 86, 69, 76, 83]⟩ 768), (.int 10 767)⟩, ⟨PySem.PyData.keyHash w.params ⟨#[71, 82, 69, 65, 84, 69, 83, 84]⟩, (.str ⟨#[71, 82, 69, 65, 84, 69, 83, 84]⟩ 772), (.int 1000000000000000000000000000000000000000000000000000000000000 771)⟩, ⟨PySem.PyData.keyHash w.params ⟨#[83, 73, 71, 78, 83]⟩, (.str ⟨#[83, 73, 71, 78, 83]⟩ 779), (.ref 446)⟩, ⟨PySem.PyData.keyHash w.params ⟨#[80, 76, 65, 73, 78]⟩, (.str ⟨#[80, 76, 65, 73, 78]⟩ 848), (.ref 447)⟩, ⟨PySem.PyData.keyHash w.params ⟨#[105, 115, 95, 119, 111, 114, 100]⟩, (.str ⟨#[105, 115, 95, 119, 111, 114, 100]⟩ 854), (.ref 469)⟩, ⟨PySem.PyData.keyHash w.params ⟨#[105, 115, 95, 110, 97, 109, 101]⟩, (.str ⟨#[105, 115, 95, 110, 97, 109, 101]⟩ 861), (.ref 476)⟩, ⟨PySem.PyData.keyHash w.params ⟨#[112, 97, 116, 116, 101, 114, 110, 95, 118, 97, 114, 105, 97, 98, 108, 101, 115]⟩, (.str ⟨#[112, 97, 116, 116, 101, 114, 110, 95, 118, 97, 114, 105, 97, 98, 108, 101, 115]⟩ 868), (.ref 483)⟩, ⟨PySem.PyData.keyHash w.params ⟨#[103, 111, 111, 100, 95, 112, 97, 116, 116, 101, 114, 110]⟩, (.str ⟨#[103, 111, 111, 100, 95, 112, 97, 116, 116, 101, 114, 110]⟩ 874), (.ref 488)⟩, ⟨PySem.PyData.keyHash w.params ⟨#[103, 111, 111, 100]⟩, (.str ⟨#[103, 111, 111, 100]⟩ 881), (.ref 494)⟩, ⟨PySem.PyData.keyHash w.params ⟨#[103, 111, 111, 100, 95, 101, 120, 112, 114, 101, 115, 115, 105, 111, 110]⟩, (.str ⟨#[103, 111, 111, 100, 95, 101, 120, 112, 114, 101, 115, 115, 105, 111, 110]⟩ 887), (.ref 499)⟩, ⟨PySem.PyData.keyHash w.params ⟨#[103, 111, 111, 100, 95, 103, 97, 116, 104, 101, 114]⟩, (.str ⟨#[103, 111, 111, 100, 95, 103, 97, 116, 104, 101, 114]⟩ 898), (.ref 506)⟩, ⟨PySem.PyData.keyHash w.params ⟨#[103, 111, 111, 100, 95, 116, 101, 115, 116]⟩, (.str ⟨#[103, 111, 111, 100, 95, 116, 101, 115, 116]⟩ 908), (.ref 513)⟩, ⟨PySem.PyData.keyHash w.params ⟨#[103, 111, 111, 100, 95, 104, 101, 97, 100]⟩, (.str ⟨#[103, 111, 111, 100, 95, 104, 101, 97, 100]⟩ 918), (.ref 520)⟩, ⟨PySem.PyData.keyHash w.params ⟨#[119, 114, 111, 110, 103, 95, 112, 108, 97, 99, 101]⟩, (.str ⟨#[119, 114, 111, 110, 103, 95, 112, 108, 97, 99, 101]⟩ 935), (.ref 529)⟩, ⟨PySem.PyData.keyHash w.params ⟨#[102, 114, 101, 101, 95, 118, 97, 114, 105, 97, 98, 108, 101, 115]⟩, (.str ⟨#[102, 114, 101, 101, 95, 118, 97, 114, 105, 97, 98, 108, 101, 115]⟩ 947), (.ref 538)⟩, ⟨PySem.PyData.keyHash w.params ⟨#[106, 111, 105, 110, 101, 100]⟩, (.str ⟨#[106, 111, 105, 110, 101, 100]⟩ 953), (.ref 543)⟩, ⟨PySem.PyData.keyHash w.params ⟨#[115, 116, 97, 116, 101, 95, 118, 97, 114, 105, 97, 98, 108, 101, 115]⟩, (.str ⟨#[115, 116, 97, 116, 101, 95, 118, 97, 114, 105, 97, 98, 108, 101, 115]⟩ 963), (.ref 550)⟩, ⟨PySem.PyData.keyHash w.params ⟨#[86, 65, 76, 85, 69, 95, 83, 73, 71, 78, 83]⟩, (.str ⟨#[86, 65, 76, 85, 69, 95, 83, 73, 71, 78, 83]⟩ 978), (.ref 551)⟩, ⟨PySem.PyData.keyHash w.params ⟨#[84, 69, 83, 84, 95, 83, 73, 71, 78, 83]⟩, (.str ⟨#[84, 69, 83, 84, 95, 83, 73, 71, 78, 83]⟩ 988), (.ref 552)⟩, ⟨PySem.PyData.keyHash w.params ⟨#[78, 85, 77, 66, 69, 82, 95, 83, 73, 71, 78, 83]⟩, (.str ⟨#[78, 85, 77, 66, 69, 82, 95, 83, 73, 71, 78, 83]⟩ 998), (.ref 553)⟩, ⟨PySem.PyData.keyHash w.params ⟨#[67, 79, 77, 80, 65, 82, 69]⟩, (.str ⟨#[67, 79, 77, 80, 65, 82, 69]⟩ 1005), (.ref 554)⟩, ⟨PySem.PyData.keyHash w.params ⟨#[68, 69, 69, 80, 69, 83, 84, 95, 114, 101, 97, 100, 105, 110, 103]⟩, (.str ⟨#[68, 69, 69, 80, 69, 83, 84, 95, 114, 101, 97, 100, 105, 110, 103]⟩ 1007), (.int 40 1006)⟩, ⟨PySem.PyData.keyHash w.params ⟨#[85, 110, 114, 101, 97, 100]⟩, (.str ⟨#[85, 110, 114, 101, 97, 100]⟩ 1038), (.ref 573)⟩, ⟨PySem.PyData.keyHash w.params ⟨#[82, 101, 97, 100, 101, 114]⟩, (.str ⟨#[82, 101, 97, 100, 101, 114]⟩ 1193), (.ref 677)⟩, ⟨PySem.PyData.keyHash w.params ⟨#[98, 114, 97, 99, 107, 101, 116, 101, 100]⟩, (.str ⟨#[98, 114, 97, 99, 107, 101, 116, 101, 100]⟩ 1204), (.ref 688)⟩, ⟨PySem.PyData.keyHash w.params ⟨#[70, 73, 82, 83, 84]⟩, (.str ⟨#[70, 73, 82, 83, 84]⟩ 1208), (.str ⟨#[107, 110, 111, 119, 110]⟩ 1207)⟩, ⟨PySem.PyData.keyHash w.params ⟨#[65, 83, 83, 73, 71, 78, 95, 108, 105, 110, 101, 115]⟩, (.str ⟨#[65, 83, 83, 73, 71, 78, 95, 108, 105, 110, 101, 115]⟩ 1215), (.ref 692)⟩, ⟨PySem.PyData.keyHash w.params ⟨#[114, 101, 97, 100, 95, 108, 105, 110, 101, 115]⟩, (.str ⟨#[114, 101, 97, 100, 95, 108, 105, 110, 101, 115]⟩ 1226), (.ref 699)⟩, ⟨PySem.PyData.keyHash w.params ⟨#[114, 101, 97, 100, 95, 107, 110, 111, 119, 110]⟩, (.str ⟨#[114, 101, 97, 100, 95, 107, 110, 111, 119, 110]⟩ 1232), (.ref 704)⟩, ⟨PySem.PyData.keyHash w.params ⟨#[105, 110, 100, 101, 110, 116, 97, 116, 105, 111, 110]⟩, (.str ⟨#[105, 110, 100, 101, 110, 116, 97, 116, 105, 111, 110]⟩ 1239), (.ref 711)⟩, ⟨PySem.PyData.keyHash w.params ⟨#[114, 101, 97, 100, 95, 98, 108, 111, 99, 107]⟩, (.str ⟨#[114, 101, 97, 100, 95, 98, 108, 111, 99, 107]⟩ 1251), (.ref 718)⟩, ⟨PySem.PyData.keyHash w.params ⟨#[114, 101, 97, 100, 95, 115, 116, 97, 116, 101, 109, 101, 110, 116]⟩, (.str ⟨#[114, 101, 97, 100, 95, 115, 116, 97, 116, 101, 109, 101, 110, 116]⟩ 1267), (.ref 725)⟩, ⟨PySem.PyData.keyHash w.params ⟨#[114, 101, 97, 100, 95, 105, 110, 110, 101, 114]⟩, (.str ⟨#[114, 101, 97, 100, 95, 105, 110, 110, 101, 114]⟩ 1278), (.ref 732)⟩, ⟨PySem.PyData.keyHash w.params ⟨#[114, 101, 97, 100, 95, 104, 101, 97, 100]⟩, (.str ⟨#[114, 101, 97, 100, 95, 104, 101, 97, 100]⟩ 1294), (.ref 739)⟩, ⟨PySem.PyData.keyHash w.params ⟨#[104, 101, 97, 100, 95, 111, 102]⟩, (.str ⟨#[104, 101, 97, 100, 95, 111, 102]⟩ 1305), (.ref 746)⟩, ⟨PySem.PyData.keyHash w.params ⟨#[83, 73, 71, 78, 95, 79, 70]⟩, (.str ⟨#[83, 73, 71, 78, 95, 79, 70]⟩ 1344), (.ref 747)⟩, ⟨PySem.PyData.keyHash w.params ⟨#[65, 83, 83, 73, 71, 78, 95, 119, 114, 105, 116, 105, 110, 103]⟩, (.str ⟨#[65, 83, 83, 73, 71, 78, 95, 119, 114, 105, 116, 105, 110, 103]⟩ 1354), (.ref 748)⟩, ⟨PySem.PyData.keyHash w.params ⟨#[112, 97, 116, 116, 101, 114, 110, 95, 116, 101, 120, 116]⟩, (.str ⟨#[112, 97, 116, 116, 101, 114, 110, 95, 116, 101, 120, 116]⟩ 1361), (.ref 755)⟩, ⟨PySem.PyData.keyHash w.params ⟨#[116, 114, 101, 101, 95, 116, 101, 120, 116]⟩, (.str ⟨#[116, 114, 101, 101, 95, 116, 101, 120, 116]⟩ 1367), (.ref 760)⟩, ⟨PySem.PyData.keyHash w.params ⟨#[103, 97, 116, 104, 101, 114, 95, 116, 101, 120, 116]⟩, (.str ⟨#[103, 97, 116, 104, 101, 114, 95, 116, 101, 120, 116]⟩ 1373), (.ref 765)⟩, ⟨PySem.PyData.keyHash w.params ⟨#[115, 116, 97, 116, 101, 109, 101, 110, 116, 95, 108, 105, 110, 101, 115]⟩, (.str ⟨#[115, 116, 97, 116, 101, 109, 101, 110, 116, 95, 108, 105, 110, 101, 115]⟩ 1379), (.ref 770)⟩, ⟨PySem.PyData.keyHash w.params ⟨#[108, 105, 110, 101, 115, 95, 111, 102]⟩, (.str ⟨#[108, 105, 110, 101, 115, 95, 111, 102]⟩ 1390), (.ref 777)⟩, ⟨PySem.PyData.keyHash w.params ⟨#[112, 114, 111, 103, 114, 97, 109, 95, 116, 101, 120, 116]⟩, (.str ⟨#[112, 114, 111, 103, 114, 97, 109, 95, 116, 101, 120, 116]⟩ 1399), (.ref 784)⟩, ⟨PySem.PyData.keyHash w.params ⟨#[80, 114, 111, 103, 114, 97, 109]⟩, (.str ⟨#[80, 114, 111, 103, 114, 97, 109]⟩ 1493), (.ref 848)⟩, ⟨PySem.PyData.keyHash w.params ⟨#[99, 104, 97, 105, 110, 101, 100]⟩, (.str ⟨#[99, 104, 97, 105, 110, 101, 100]⟩ 1499), (.ref 857)⟩, ⟨PySem.PyData.keyHash w.params ⟨#[105, 115, 95, 119, 104, 111, 108, 101]⟩, (.str ⟨#[105, 115, 95, 119, 104, 111, 108, 101]⟩ 1508), (.ref 864)⟩, ⟨PySem.PyData.keyHash w.params ⟨#[119, 104, 111, 108, 101, 95, 108, 105, 115, 116]⟩, (.str ⟨#[119, 104, 111, 108, 101, 95, 108, 105, 115, 116]⟩ 1514), (.ref 869)⟩, ⟨PySem.PyData.keyHash w.params ⟨#[116, 114, 105, 109, 109, 101, 100]⟩, (.str ⟨#[116, 114, 105, 109, 109, 101, 100]⟩ 1522), (.ref 876)⟩, ⟨PySem.PyData.keyHash w.params ⟨#[119, 104, 111, 108, 101, 95, 114, 111, 119]⟩, (.str ⟨#[119, 104, 111, 108, 101, 95, 114, 111, 119]⟩ 1529), (.ref 883)⟩, ⟨PySem.PyData.keyHash w.params ⟨#[114, 111, 119, 95, 118, 97, 108, 117, 101]⟩, (.str ⟨#[114, 111, 119, 95, 118, 97, 108, 117, 101]⟩ 1541), (.ref 890)⟩, ⟨PySem.PyData.keyHash w.params ⟨#[100, 105, 102, 102, 101, 114, 101, 110, 99, 101, 115]⟩, (.str ⟨#[100, 105, 102, 102, 101, 114, 101, 110, 99, 101, 115]⟩ 1547), (.ref 895)⟩, ⟨PySem.PyData.keyHash w.params ⟨#[114, 111, 119, 95, 109, 111, 118, 101, 100]⟩, (.str ⟨#[114, 111, 119, 95, 109, 111, 118, 101, 100]⟩ 1553), (.ref 900)⟩, ⟨PySem.PyData.keyHash w.params ⟨#[110, 101, 103, 97, 116, 101, 100]⟩, (.str ⟨#[110, 101, 103, 97, 116, 101, 100]⟩ 1559), (.ref 905)⟩, ⟨PySem.PyData.keyHash w.params ⟨#[97, 100, 100, 95, 114, 111, 119, 115]⟩, (.str ⟨#[97, 100, 100, 95, 114, 111, 119, 115]⟩ 1565), (.ref 910)⟩, ⟨PySem.PyData.keyHash w.params ⟨#[116, 97, 107, 101, 95, 114, 111, 119, 115]⟩, (.str ⟨#[116, 97, 107, 101, 95, 114, 111, 119, 115]⟩ 1573), (.ref 917)⟩, ⟨PySem.PyData.keyHash w.params ⟨#[109, 117, 108, 116, 105, 112, 108, 121, 95, 114, 111, 119, 115]⟩, (.str ⟨#[109, 117, 108, 116, 105, 112, 108, 121, 95, 114, 111, 119, 115]⟩ 1579), (.ref 922)⟩, ⟨PySem.PyData.keyHash w.params ⟨#[102, 97, 108, 108, 105, 110, 103, 95, 114, 111, 119]⟩, (.str ⟨#[102, 97, 108, 108, 105, 110, 103, 95, 114, 111, 119]⟩ 1589), (.ref 929)⟩, ⟨PySem.PyData.keyHash w.params ⟨#[115, 105, 103, 110, 95, 111, 102]⟩, (.str ⟨#[115, 105, 103, 110, 95, 111, 102]⟩ 1596), (.ref 936)⟩, ⟨PySem.PyData.keyHash w.params ⟨#[102, 105, 114, 115, 116, 95, 102, 114, 111, 109]⟩, (.str ⟨#[102, 105, 114, 115, 116, 95, 102, 114, 111, 109]⟩ 1608), (.ref 943)⟩, ⟨PySem.PyData.keyHash w.params ⟨#[99, 117, 116, 95, 98, 121, 95, 115, 105, 103, 110]⟩, (.str ⟨#[99, 117, 116, 95, 98, 121, 95, 115, 105, 103, 110]⟩ 1614), (.ref 948)⟩, ⟨PySem.PyData.keyHash w.params ⟨#[106, 111, 105, 110, 101, 100, 95, 115, 105, 103, 110, 115]⟩, (.str ⟨#[106, 111, 105, 110, 101, 100, 95, 115, 105, 103, 110, 115]⟩ 1625), (.ref 955)⟩, ⟨PySem.PyData.keyHash w.params ⟨#[115, 105, 103, 110, 115, 95, 111, 102]⟩, (.str ⟨#[115, 105, 103, 110, 115, 95, 111, 102]⟩ 1631), (.ref 960)⟩, ⟨PySem.PyData.keyHash w.params ⟨#[108, 101, 97, 115, 116, 95, 115, 105, 103, 110]⟩, (.str ⟨#[108, 101, 97, 115, 116, 95, 115, 105, 103, 110]⟩ 1637), (.ref 965)⟩, ⟨PySem.PyData.keyHash w.params ⟨#[114, 111, 119, 95, 111, 102]⟩, (.str ⟨#[114, 111, 119, 95, 111, 102]⟩ 1644), (.ref 972)⟩, ⟨PySem.PyData.keyHash w.params ⟨#[83, 105, 122, 101]⟩, (.str ⟨#[83, 105, 122, 101]⟩ 1887), (.ref 1152)⟩, ⟨PySem.PyData.keyHash w.params ⟨#[85, 78, 73, 79, 78]⟩, (.str ⟨#[85, 78, 73, 79, 78]⟩ 1890), (.ref 1157)⟩, ⟨PySem.PyData.keyHash w.params ⟨#[77, 69, 69, 84]⟩, (.str ⟨#[77, 69, 69, 84]⟩ 1891), (.ref 1158)⟩, ⟨PySem.PyData.keyHash w.params ⟨#[87, 73, 84, 72, 79, 85, 84]⟩, (.str ⟨#[87, 73, 84, 72, 79, 85, 84]⟩ 1892), (.ref 1159)⟩, ⟨PySem.PyData.keyHash w.params ⟨#[69, 73, 84, 72, 69, 82]⟩, (.str ⟨#[69, 73, 84, 72, 69, 82]⟩ 1893), (.ref 1160)⟩, ⟨PySem.PyData.keyHash w.params ⟨#[69, 86, 69, 82, 89]⟩, (.str ⟨#[69, 86, 69, 82, 89]⟩ 1895), (.ref 1162)⟩, ⟨PySem.PyData.keyHash w.params ⟨#[105, 115, 95, 115, 116, 114, 101, 116, 99, 104]⟩, (.str ⟨#[105, 115, 95, 115, 116, 114, 101, 116, 99, 104]⟩ 1904), (.ref 1169)⟩, ⟨PySem.PyData.keyHash w.params ⟨#[116, 117, 114, 110, 105, 110, 103, 95, 112, 111, 105, 110, 116, 115]⟩, (.str ⟨#[116, 117, 114, 110, 105, 110, 103, 95, 112, 111, 105, 110, 116, 115]⟩ 1910), (.ref 1174)⟩, ⟨PySem.PyData.keyHash w.params ⟨#[112, 97, 105, 114, 101, 100]⟩, (.str ⟨#[112, 97, 105, 114, 101, 100]⟩ 1916), (.ref 1179)⟩, ⟨PySem.PyData.keyHash w.params ⟨#[99, 111, 109, 98, 105, 110, 101, 100]⟩, (.str ⟨#[99, 111, 109, 98, 105, 110, 101, 100]⟩ 1931), (.ref 1186)⟩, ⟨PySem.PyData.keyHash w.params ⟨#[115, 112, 97, 110, 95, 109, 111, 118, 101, 100]⟩, (.str ⟨#[115, 112, 97, 110, 95, 109, 111, 118, 101, 100]⟩ 1937), (.ref 1191)⟩, ⟨PySem.PyData.keyHash w.params ⟨#[108, 105, 101, 115, 95, 105, 110]⟩, (.str ⟨#[108, 105, 101, 115, 95, 105, 110]⟩ 1943), (.ref 1196)⟩, ⟨PySem.PyData.keyHash w.params ⟨#[115, 116, 114, 101, 116, 99, 104, 95, 116, 101, 120, 116]⟩, (.str ⟨#[115, 116, 114, 101, 116, 99, 104, 95, 116, 101, 120, 116]⟩ 1951), (.ref 1203)⟩, ⟨PySem.PyData.keyHash w.params ⟨#[83, 112, 97, 110]⟩, (.str ⟨#[83, 112, 97, 110]⟩ 2210), (.ref 1402)⟩] 130), #[]⟩, boot_o_4 w.params, boot_o_5 w.params, boot_o_6 w.params, boot_o_7 w.params, boot_o_8 w.params, boot_o_9 w.params, boot_o_10 w.params, ⟨(.type "tuple"), none, (.seq #[] 0), #[]⟩, ⟨.none, none, (.fields #[(.int 1 0), (.int 0 0), (.ref 20), (.int 5 0), (.int 0 0), (.ref 27), (.int 7 0), (.int 0 0), (.ref 41), (.int 12 0), (.int 0 0), (.ref 62), (.int 17 0), (.int 0 0), (.ref 83), (.int 22 0), (.int 0 0), (.ref 104), (.int 28 0), (.int 0 0), (.ref 125), (.int 33 0), (.int 0 0), (.ref 146), (.int 38 0), (.int 0 0), (.ref 167), (.int 43 0), (.int 0 0), (.ref 187), (.int 45 0), (.int 0 0), (.ref 200), (.int 50 0), (.int 0 0), (.ref 221), (.int 56 0), (.int 0 0), (.ref 242), (.int 63 0), (.int 0 0), (.ref 263), (.int 69 0), (.int 0 0), (.ref 284), (.int 75 0), (.int 0 0), (.ref 304), (.int 87 0), (.int 0 0), (.ref 309), (.int 89 0), (.int 0 0), (.ref 316), (.int 91 0), (.int 0 0), (.ref 323), (.int 93 0), (.int 0 0), (.ref 328), (.int 107 0), (.int 0 0), (.ref 335), (.int 109 0), (.int 0 0), (.ref 340), (.int 114 0), (.int 0 0), (.ref 345), (.int 117 0), (.int 0 0), (.ref 350), (.int 124 0), (.int 0 0), (.ref 357), (.int 130 0), (.int 0 0), (.ref 364), (.int 132 0), (.int 0 0), (.ref 369), (.int 136 0), (.int 0 0), (.ref 374), (.int 141 0), (.int 0 0), (.ref 381), (.int 155 0), (.int 0 0), (.ref 386), (.int 157 0), (.int 0 0), (.ref 391), (.int 159 0), (.int 0 0), (.ref 396), (.int 161 0), (.int 0 0), (.ref 403), (.int 175 0), (.int 0 0), (.ref 408), (.int 187 0), (.int 0 0), (.ref 413), (.int 198 0), (.int 0 0), (.ref 420), (.int 204 0), (.int 0 0), (.ref 425), (.int 208 0), (.int 0 0), (.ref 430), (.int 223 0), (.int 0 0), (.ref 435), (.int 235 0), (.int 0 0), (.ref 443), (.int 244 0), (.int 0 0), (.ref 468), (.int 248 0), (.int 0 0), (.ref 475), (.int 250 0), (.int 0 0), (.ref 482), (.int 254 0), (.int 0 0), (.ref 487), (.int 263 0), (.int 0 0), (.ref 493), (.int 279 0), (.int 0 0), (.ref 498), (.int 292 0), (.int 0 0), (.ref 505), (.int 302 0), (.int 0 0), (.ref 512), (.int 312 0), (.int 0 0), (.ref 519), (.int 326 0), (.int 0 0), (.ref 528), (.int 337 0), (.int 0 0), (.ref 537), (.int 353 0), (.int 0 0), (.ref 542), (.int 355 0), (.int 0 0), (.ref 549), (.int 372 0), (.int 0 0), (.ref 561), (.int 377 0), (.int 0 0), (.ref 582), (.int 527 0), (.int 0 0), (.ref 687), (.int 542 0), (.int 0 0), (.ref 698), (.int 551 0), (.int 0 0), (.ref 703), (.int 560 0), (.int 0 0), (.ref 710), (.int 562 0), (.int 0 0), (.ref 717), (.int 568 0), (.int 0 0), (.ref 724), (.int 581 0), (.int 0 0), (.ref 731), (.int 587 0), (.int 0 0), (.ref 738), (.int 600 0), (.int 0 0), (.ref 745), (.int 617 0), (.int 0 0), (.ref 754), (.int 621 0), (.int 0 0), (.ref 759), (.int 646 0), (.int 0 0), (.ref 764), (.int 650 0), (.int 0 0), (.ref 769), (.int 652 0), (.int 0 0), (.ref 776), (.int 661 0), (.int 0 0), (.ref 783), (.int 665 0), (.int 0 0), (.ref 790), (.int 701 0), (.int 0 0), (.ref 856), (.int 705 0), (.int 0 0), (.ref 863), (.int 707 0), (.int 0 0), (.ref 868), (.int 709 0), (.int 0 0), (.ref 875), (.int 714 0), (.int 0 0), (.ref 882), (.int 716 0), (.int 0 0), (.ref 889), (.int 723 0), (.int 0 0), (.ref 894), (.int 730 0), (.int 0 0), (.ref 899), (.int 732 0), (.int 0 0), (.ref 904), (.int 734 0), (.int 0 0), (.ref 909), (.int 739 0), (.int 0 0), (.ref 916), (.int 741 0), (.int 0 0), (.ref 921), (.int 745 0), (.int 0 0), (.ref 928), (.int 750 0), (.int 0 0), (.ref 935), (.int 752 0), (.int 0 0), (.ref 942), (.int 765 0), (.int 0 0), (.ref 947), (.int 774 0), (.int 0 0), (.ref 954), (.int 782 0), (.int 0 0), (.ref 959), (.int 788 0), (.int 0 0), (.ref 964), (.int 790 0), (.int 0 0), (.ref 971), (.int 796 0), (.int 0 0), (.ref 978), (.int 922 0), (.int 0 0), (.ref 1168), (.int 929 0), (.int 0 0), (.ref 1173), (.int 931 0), (.int 0 0), (.ref 1178), (.int 934 0), (.int 0 0), (.ref 1185), (.int 952 0), (.int 0 0), (.ref 1190), (.int 955 0), (.int 0 0), (.ref 1195), (.int 957 0), (.int 0 0), (.ref 1202), (.int 961 0), (.int 0 0), (.ref 1209)]), #[]⟩, ⟨(.type "code"), none, (.fields #[(.str ⟨#[60, 109, 111, 100, 117, 108, 101, 62]⟩ 182), (.str ⟨#[60, 109, 111, 100, 117, 108, 101, 62]⟩ 183), (.str ⟨#[47, 99, 108, 97, 105, 109, 47, 99, 117, 116, 46, 112, 121]⟩ 184), (.int 1 0), (.int 0 0), (.int 0 0), (.int 0 0), (.int 0 0), (.ref 11), (.bool false), (.int 181 0), (.ref 12), .none, .none, .none, .none, (.int 185 0), (.int 1 0), (.str ⟨#[47, 99, 108, 97, 105, 109, 47, 99, 117, 116, 46, 112, 121]⟩ 186)]), #[]⟩, ⟨(.type "frame"), none, .plain, #[(some (.ref 13)), (some (.ref 3)), (some (.ref 3)), none, (some (.str ⟨#[95, 95, 109, 97, 105, 110, 95, 95]⟩ 164)), none, (some (.ref 0))]⟩]
def O10 : List Nat := [29, 30, 31, 32, 38, 49, 50, 51, 52, 53, 197, 208, 209, 210, 211, 212, 281, 292, 293, 294, 295, 296, 437, 438, 439, 443, 444, 445, 468, 469, 475, 476, 521, 522, 528, 529, 542, 543, 549, 550, 769, 770, 783, 784, 792, 793, 794, 798, 799, 805, 806, 808, 815, 816, 817, 823, 824, 830, 831, 837, 838, 844, 845, 846, 847, 848, 849, 850, 875, 876, 882, 883, 889, 890]
def A10 : List Nat := []
def G10 (p : Program) (w : World) : List Obj := []
theorem grp10 (w : World) (os : OsState) (g : Nat → Obj) : grpO (HandSHeadRun.stepQ (HandSHeadRun.denQ HandSHeadRun.tabQ) PySem.W.Fast.tw10313853756172224601 w) 1426 (O10 ++ A10) (boot_heap w.params).life boot_drawn 1952 os (F9 w ++ (List.range 1189).map fun i => g (15 + i)) (piecesOf (((((((((((((((((((((PySem.W.Fast.tw10313853756172224601).main.body).drop 16)).drop 33)).drop 1)).drop 14)).drop 3)).drop 17)).drop 2)).drop 29)).drop 14)).take 2) (envA PySem.W.Fast.tw10313853756172224601 13 14) (codeA PySem.W.Fast.tw10313853756172224601 13 14) ⟨957, 0, 960, 55⟩ [topFrame ⟨0, 0, 0, 0⟩]) =
    some (.next, (codeA PySem.W.Fast.tw10313853756172224601 13 14), ⟨1092, 0, 1092, 8⟩, 1407, (boot_heap w.params).life, 0, boot_drawn, 2213, os, (F10 w).map some, (O10.map g ++ G10 PySem.W.Fast.tw10313853756172224601 w).map some) := by kernel_rfl
def F11 (w : World) : List Obj := [boot_o_0 w.params, boot_o_1 w.params, ⟨.none, none, (.dict #[⟨PySem.PyData.keyHash w.params ⟨#[116, 121, 112, 101, 46, 95, 95, 115, 117, 98, 99, 108, 97, 115, 115, 101, 115, 95, 95, 46, 69, 120, 99, 101, 112, 116, 105, 111, 110, 46, 48]⟩, (.str ⟨#[116, 121, 112, 101, 46, 95, 95, 115, 117, 98, 99, 108, 97, 115, 115, 101, 115, 95, 95, 46, 69, 120, 99, 101, 112, 116, 105, 111, 110, 46, 48]⟩ 1035), (.int 573 0)⟩, ⟨PySem.PyData.keyHash w.params ⟨#[116, 121, 112, 101, 46, 95, 95, 115, 117, 98, 99, 108, 97, 115, 115, 101, 115, 95, 95, 46, 69, 120, 99, 101, 112, 116, 105, 111, 110, 46, 110]⟩, (.str ⟨#[116, 121, 112, 101, 46, 95, 95, 115, 117, 98, 99, 108, 97, 115, 115, 101, 115, 95, 95, 46, 69, 120, 99, 101, 112, 116, 105, 111, 110, 46, 110]⟩ 1036), (.int 1 0)⟩] 2), #[]⟩, ⟨(.type "dict"), none, (.dict #[⟨PySem.PyData.keyHash w.params ⟨#[95, 95, 110, 97, 109, 101, 95, 95]⟩, (.str ⟨#[95, 95, 110, 97, 109, 101, 95, 95]⟩ 165), (.str ⟨#[101, 118, 101, 114, 121, 110, 97, 109, 101, 46, 116, 97, 108, 108, 105, 101, 115]⟩ 2211)⟩, ⟨PySem.PyData.keyHash w.params ⟨#[95, 95, 100, 111, 99, 95, 95]⟩, (.str ⟨#[95, 95, 100, 111, 99, 95, 95]⟩ 166), .none⟩, ⟨PySem.PyData.keyHash w.params ⟨#[95, 95, 112, 97, 99, 107, 97, 103, 101, 95, 95]⟩, (.str ⟨#[95, 95, 112, 97, 99, 107, 97, 103, 101, 95, 95]⟩ 167), .none⟩, ⟨PySem.PyData.keyHash w.params ⟨#[95, 95, 108, 111, 97, 100, 101, 114, 95, 95]⟩, (.str ⟨#[95, 95, 108, 111, 97, 100, 101, 114, 95, 95]⟩ 168), (.builtin "__main__.__loader__#opaque")⟩, ⟨PySem.PyData.keyHash w.params ⟨#[95, 95, 115, 112, 101, 99, 95, 95]⟩, (.str ⟨#[95, 95, 115, 112, 101, 99, 95, 95]⟩ 169), .none⟩, ⟨PySem.PyData.keyHash w.params ⟨#[95, 95, 97, 110, 110, 111, 116, 97, 116, 105, 111, 110, 115, 95, 95]⟩, (.str ⟨#[95, 95, 97, 110, 110, 111, 116, 97, 116, 105, 111, 110, 115, 95, 95]⟩ 170), (.ref 6)⟩, ⟨PySem.PyData.keyHash w.params ⟨#[95, 95, 98, 117, 105, 108, 116, 105, 110, 115, 95, 95]⟩, (.str ⟨#[95, 95, 98, 117, 105, 108, 116, 105, 110, 115, 95, 95]⟩ 171), (.ref 4)⟩, ⟨PySem.PyData.keyHash w.params ⟨#[95, 95, 102, 105, 108, 101, 95, 95]⟩, (.str ⟨#[95, 95, 102, 105, 108, 101, 95, 95]⟩ 173), (.str ⟨#[47, 99, 108, 97, 105, 109, 47, 99, 117, 116, 46, 112, 121]⟩ 172)⟩, ⟨PySem.PyData.keyHash w.params ⟨#[95, 95, 99, 97, 99, 104, 101, 100, 95, 95]⟩, (.str ⟨#[95, 95, 99, 97, 99, 104, 101, 100, 95, 95]⟩ 174), .none⟩, ⟨PySem.PyData.keyHash w.params ⟨#[95, 119, 97, 108, 108]⟩, (.str ⟨#[95, 119, 97, 108, 108]⟩ 193), (.ref 21)⟩, ⟨PySem.PyData.keyHash w.params ⟨#[69, 118, 101, 114, 121, 110, 97, 109, 101, 69, 114, 114, 111, 114]⟩, (.str ⟨#[69, 118, 101, 114, 121, 110, 97, 109, 101, 69, 114, 114, 111, 114]⟩ 213), (.ref 31)⟩, ⟨PySem.PyData.keyHash w.params ⟨#[66, 97, 100, 80, 114, 111, 103, 114, 97, 109]⟩, (.str ⟨#[66, 97, 100, 80, 114, 111, 103, 114, 97, 109]⟩ 240), (.ref 53)⟩, ⟨PySem.PyData.keyHash w.params ⟨#[66, 97, 100, 84, 101, 120, 116]⟩, (.str ⟨#[66, 97, 100, 84, 101, 120, 116]⟩ 267), (.ref 74)⟩, ⟨PySem.PyData.keyHash w.params ⟨#[66, 97, 100, 86, 97, 108, 117, 101]⟩, (.str ⟨#[66, 97, 100, 86, 97, 108, 117, 101]⟩ 294), (.ref 95)⟩, ⟨PySem.PyData.keyHash w.params ⟨#[79, 116, 104, 101, 114, 83, 116, 111, 99, 107]⟩, (.str ⟨#[79, 116, 104, 101, 114, 83, 116, 111, 99, 107]⟩ 323), (.ref 116)⟩, ⟨PySem.PyData.keyHash w.params ⟨#[84, 111, 111, 77, 97, 110, 121]⟩, (.str ⟨#[84, 111, 111, 77, 97, 110, 121]⟩ 350), (.ref 137)⟩, ⟨PySem.PyData.keyHash w.params ⟨#[78, 111, 86, 97, 114, 105, 97, 98, 108, 101]⟩, (.str ⟨#[78, 111, 86, 97, 114, 105, 97, 98, 108, 101]⟩ 377), (.ref 158)⟩, ⟨PySem.PyData.keyHash w.params ⟨#[78, 111, 116, 69, 120, 97, 99, 116]⟩, (.str ⟨#[78, 111, 116, 69, 120, 97, 99, 116]⟩ 404), (.ref 179)⟩, ⟨PySem.PyData.keyHash w.params ⟨#[69, 109, 112, 116, 121, 83, 112, 97, 110]⟩, (.str ⟨#[69, 109, 112, 116, 121, 83, 112, 97, 110]⟩ 420), (.ref 191)⟩, ⟨PySem.PyData.keyHash w.params ⟨#[66, 97, 100, 78, 97, 109, 101]⟩, (.str ⟨#[66, 97, 100, 78, 97, 109, 101]⟩ 447), (.ref 212)⟩, ⟨PySem.PyData.keyHash w.params ⟨#[66, 97, 100, 82, 117, 108, 101]⟩, (.str ⟨#[66, 97, 100, 82, 117, 108, 101]⟩ 476), (.ref 233)⟩, ⟨PySem.PyData.keyHash w.params ⟨#[82, 101, 115, 116, 108, 101, 115, 115]⟩, (.str ⟨#[82, 101, 115, 116, 108, 101, 115, 115]⟩ 507), (.ref 254)⟩, ⟨PySem.PyData.keyHash w.params ⟨#[66, 114, 111, 107, 101, 110]⟩, (.str ⟨#[66, 114, 111, 107, 101, 110]⟩ 536), (.ref 275)⟩, ⟨PySem.PyData.keyHash w.params ⟨#[83, 101, 97, 109]⟩, (.str ⟨#[83, 101, 97, 109]⟩ 563), (.ref 296)⟩, ⟨PySem.PyData.keyHash w.params ⟨#[111, 99, 99, 117, 114, 114, 105, 110, 103]⟩, (.str ⟨#[111, 99, 99, 117, 114, 114, 105, 110, 103]⟩ 575), (.ref 305)⟩, ⟨PySem.PyData.keyHash w.params ⟨#[97, 115, 99, 101, 110, 100, 105, 110, 103]⟩, (.str ⟨#[97, 115, 99, 101, 110, 100, 105, 110, 103]⟩ 581), (.ref 310)⟩, ⟨PySem.PyData.keyHash w.params ⟨#[102, 114, 101, 101]⟩, (.str ⟨#[102, 114, 101, 101]⟩ 588), (.ref 317)⟩, ⟨PySem.PyData.keyHash w.params ⟨#[103, 114, 101, 97, 116, 101, 115, 116]⟩, (.str ⟨#[103, 114, 101, 97, 116, 101, 115, 116]⟩ 595), (.ref 324)⟩, ⟨PySem.PyData.keyHash w.params ⟨#[112, 117, 116]⟩, (.str ⟨#[112, 117, 116]⟩ 601), (.ref 329)⟩, ⟨PySem.PyData.keyHash w.params ⟨#[102, 114, 101, 115, 104]⟩, (.str ⟨#[102, 114, 101, 115, 104]⟩ 609), (.ref 336)⟩, ⟨PySem.PyData.keyHash w.params ⟨#[119, 97, 121, 115]⟩, (.str ⟨#[119, 97, 121, 115]⟩ 615), (.ref 341)⟩, ⟨PySem.PyData.keyHash w.params ⟨#[108, 111, 110, 103, 101, 114, 95, 119, 97, 121, 115]⟩, (.str ⟨#[108, 111, 110, 103, 101, 114, 95, 119, 97, 121, 115]⟩ 621), (.ref 346)⟩, ⟨PySem.PyData.keyHash w.params ⟨#[119, 105, 100, 101, 110, 101, 100]⟩, (.str ⟨#[119, 105, 100, 101, 110, 101, 100]⟩ 627), (.ref 351)⟩, ⟨PySem.PyData.keyHash w.params ⟨#[101, 110, 111, 117, 103, 104]⟩, (.str ⟨#[101, 110, 111, 117, 103, 104]⟩ 636), (.ref 358)⟩, ⟨PySem.PyData.keyHash w.params ⟨#[115, 116, 97, 110, 100, 115]⟩, (.str ⟨#[115, 116, 97, 110, 100, 115]⟩ 646), (.ref 365)⟩, ⟨PySem.PyData.keyHash w.params ⟨#[102, 105, 108, 108, 105, 110, 103, 115]⟩, (.str ⟨#[102, 105, 108, 108, 105, 110, 103, 115]⟩ 652), (.ref 370)⟩, ⟨PySem.PyData.keyHash w.params ⟨#[116, 111, 108, 100, 95, 116, 101, 114, 109, 115]⟩, (.str ⟨#[116, 111, 108, 100, 95, 116, 101, 114, 109, 115]⟩ 658), (.ref 375)⟩, ⟨PySem.PyData.keyHash w.params ⟨#[117, 110, 108, 105, 107, 101]⟩, (.str ⟨#[117, 110, 108, 105, 107, 101]⟩ 668), (.ref 382)⟩, ⟨PySem.PyData.keyHash w.params ⟨#[101, 113, 117, 97, 108, 95, 108, 105, 115, 116, 115]⟩, (.str ⟨#[101, 113, 117, 97, 108, 95, 108, 105, 115, 116, 115]⟩ 674), (.ref 387)⟩, ⟨PySem.PyData.keyHash w.params ⟨#[105, 115, 95, 102, 108, 97, 116]⟩, (.str ⟨#[105, 115, 95, 102, 108, 97, 116]⟩ 680), (.ref 392)⟩, ⟨PySem.PyData.keyHash w.params ⟨#[102, 108, 97, 116, 95, 114, 111, 119, 115]⟩, (.str ⟨#[102, 108, 97, 116, 95, 114, 111, 119, 115]⟩ 686), (.ref 397)⟩, ⟨PySem.PyData.keyHash w.params ⟨#[115, 97, 109, 101]⟩, (.str ⟨#[115, 97, 109, 101]⟩ 699), (.ref 404)⟩, ⟨PySem.PyData.keyHash w.params ⟨#[109, 101, 109, 98, 101, 114]⟩, (.str ⟨#[109, 101, 109, 98, 101, 114]⟩ 705), (.ref 409)⟩, ⟨PySem.PyData.keyHash w.params ⟨#[119, 105, 116, 104, 105, 110]⟩, (.str ⟨#[119, 105, 116, 104, 105, 110]⟩ 711), (.ref 414)⟩, ⟨PySem.PyData.keyHash w.params ⟨#[104, 97, 115, 95, 115, 101, 116]⟩, (.str ⟨#[104, 97, 115, 95, 115, 101, 116]⟩ 719), (.ref 421)⟩, ⟨PySem.PyData.keyHash w.params ⟨#[114, 111, 119, 95, 111, 118, 101, 114]⟩, (.str ⟨#[114, 111, 119, 95, 111, 118, 101, 114]⟩ 725), (.ref 426)⟩, ⟨PySem.PyData.keyHash w.params ⟨#[98, 117, 105, 108, 116]⟩, (.str ⟨#[98, 117, 105, 108, 116]⟩ 731), (.ref 431)⟩, ⟨PySem.PyData.keyHash w.params ⟨#[115, 104, 105, 102, 116, 101, 100]⟩, (.str ⟨#[115, 104, 105, 102, 116, 101, 100]⟩ 737), (.ref 436)⟩, ⟨PySem.PyData.keyHash w.params ⟨#[69, 77, 80, 84, 89]⟩, (.str ⟨#[69, 77, 80, 84, 89]⟩ 739), (.ref 439)⟩, ⟨PySem.PyData.keyHash w.params ⟨#[115, 116, 111, 99, 107]⟩, (.str ⟨#[115, 116, 111, 99, 107]⟩ 745), (.ref 444)⟩, ⟨PySem.PyData.keyHash w.params ⟨#[82, 69, 83, 69, 82, 86, 69, 68]⟩, (.str ⟨#[82, 69, 83, 69, 82, 86, 69, 68]⟩ 764), (.ref 445)⟩, ⟨PySem.PyData.keyHash w.params ⟨#[68, 69, 69, 80, 69, 83, 84, 95, 116, 114, 101, 101, 115]⟩, (.str ⟨#[68, 69, 69, 80, 69, 83, 84, 95, 116, 114, 101, 101, 115]⟩ 766), (.int 40 765)⟩, ⟨PySem.PyData.keyHash w.params ⟨#[76, 69, 86, 69, 76, 83]⟩, (.str ⟨#[76, 69, 86, 69, 76, 83]⟩ 768), (.int 10 767)⟩, ⟨PySem.PyData.keyHash w.params ⟨#[71, 82, 69, 65, 84, 69, 83, 84]⟩, (.str ⟨#[71, 82, 69, 65, 84, 69, 83, 84]⟩ 772), (.int 1000000000000000000000000000000000000000000000000000000000000 771)⟩, ⟨PySem.PyData.keyHash w.params ⟨#[83, 73, 71, 78, 83]⟩, (.str ⟨#[83, 73, 71, 78, 83]⟩ 779), (.ref 446)⟩, ⟨PySem.PyData.keyHash w.params ⟨#[80, 76, 65, 73, 78]⟩, (.str ⟨#[80, 76, 65, 73, 78]⟩ 848), (.ref 447)⟩, ⟨PySem.PyData.keyHash w.params ⟨#[105, 115, 95, 119, 111, 114, 100]⟩, (.str ⟨#[105, 115, 95, 119, 111, 114, 100]⟩ 854), (.ref 469)⟩, ⟨PySem.PyData.keyHash w.params ⟨#[105, 115, 95, 110, 97, 109, 101]⟩, (.str ⟨#[105, 115, 95, 110, 97, 109, 101]⟩ 861), (.ref 476)⟩, ⟨PySem.PyData.keyHash w.params ⟨#[112, 97, 116, 116, 101, 114, 110, 95, 118, 97, 114, 105, 97, 98, 108, 101, 115]⟩, (.str ⟨#[112, 97, 116, 116, 101, 114, 110, 95, 118, 97, 114, 105, 97, 98, 108, 101, 115]⟩ 868), (.ref 483)⟩, ⟨PySem.PyData.keyHash w.params ⟨#[103, 111, 111, 100, 95, 112, 97, 116, 116, 101, 114, 110]⟩, (.str ⟨#[103, 111, 111, 100, 95, 112, 97, 116, 116, 101, 114, 110]⟩ 874), (.ref 488)⟩, ⟨PySem.PyData.keyHash w.params ⟨#[103, 111, 111, 100]⟩, (.str ⟨#[103, 111, 111, 100]⟩ 881), (.ref 494)⟩, ⟨PySem.PyData.keyHash w.params ⟨#[103, 111, 111, 100, 95, 101, 120, 112, 114, 101, 115, 115, 105, 111, 110]⟩, (.str ⟨#[103, 111, 111, 100, 95, 101, 120, 112, 114, 101, 115, 115, 105, 111, 110]⟩ 887), (.ref 499)⟩, ⟨PySem.PyData.keyHash w.params ⟨#[103, 111, 111, 100, 95, 103, 97, 116, 104, 101, 114]⟩, (.str ⟨#[103, 111, 111, 100, 95, 103, 97, 116, 104, 101, 114]⟩ 898), (.ref 506)⟩, ⟨PySem.PyData.keyHash w.params ⟨#[103, 111, 111, 100, 95, 116, 101, 115, 116]⟩, (.str ⟨#[103, 111, 111, 100, 95, 116, 101, 115, 116]⟩ 908), (.ref 513)⟩, ⟨PySem.PyData.keyHash w.params ⟨#[103, 111, 111, 100, 95, 104, 101, 97, 100]⟩, (.str ⟨#[103, 111, 111, 100, 95, 104, 101, 97, 100]⟩ 918), (.ref 520)⟩, ⟨PySem.PyData.keyHash w.params ⟨#[119, 114, 111, 110, 103, 95, 112, 108, 97, 99, 101]⟩, (.str ⟨#[119, 114, 111, 110, 103, 95, 112, 108, 97, 99, 101]⟩ 935), (.ref 529)⟩, ⟨PySem.PyData.keyHash w.params ⟨#[102, 114, 101, 101, 95, 118, 97, 114, 105, 97, 98, 108, 101, 115]⟩, (.str ⟨#[102, 114, 101, 101, 95, 118, 97, 114, 105, 97, 98, 108, 101, 115]⟩ 947), (.ref 538)⟩, ⟨PySem.PyData.keyHash w.params ⟨#[106, 111, 105, 110, 101, 100]⟩, (.str ⟨#[106, 111, 105, 110, 101, 100]⟩ 953), (.ref 543)⟩, ⟨PySem.PyData.keyHash w.params ⟨#[115, 116, 97, 116, 101, 95, 118, 97, 114, 105, 97, 98, 108, 101, 115]⟩, (.str ⟨#[115, 116, 97, 116, 101, 95, 118, 97, 114, 105, 97, 98, 108, 101, 115]⟩ 963), (.ref 550)⟩, ⟨PySem.PyData.keyHash w.params ⟨#[86, 65, 76, 85, 69, 95, 83, 73, 71, 78, 83]⟩, (.str ⟨#[86, 65, 76, 85, 69, 95, 83, 73, 71, 78, 83]⟩ 978), (.ref 551)⟩, ⟨PySem.PyData.keyHash w.params ⟨#[84, 69, 83, 84, 95, 83, 73, 71, 78, 83]⟩, (.str ⟨#[84, 69, 83, 84, 95, 83, 73, 71, 78, 83]⟩ 988), (.ref 552)⟩, ⟨PySem.PyData.keyHash w.params ⟨#[78, 85, 77, 66, 69, 82, 95, 83, 73, 71, 78, 83]⟩, (.str ⟨#[78, 85, 77, 66, 69, 82, 95, 83, 73, 71, 78, 83]⟩ 998), (.ref 553)⟩, ⟨PySem.PyData.keyHash w.params ⟨#[67, 79, 77, 80, 65, 82, 69]⟩, (.str ⟨#[67, 79, 77, 80, 65, 82, 69]⟩ 1005), (.ref 554)⟩, ⟨PySem.PyData.keyHash w.params ⟨#[68, 69, 69, 80, 69, 83, 84, 95, 114, 101, 97, 100, 105, 110, 103]⟩, (.str ⟨#[68, 69, 69, 80, 69, 83, 84, 95, 114, 101, 97, 100, 105, 110, 103]⟩ 1007), (.int 40 1006)⟩, ⟨PySem.PyData.keyHash w.params ⟨#[85, 110, 114, 101, 97, 100]⟩, (.str ⟨#[85, 110, 114, 101, 97, 100]⟩ 1038), (.ref 573)⟩, ⟨PySem.PyData.keyHash w.params ⟨#[82, 101, 97, 100, 101, 114]⟩, (.str ⟨#[82, 101, 97, 100, 101, 114]⟩ 1193), (.ref 677)⟩, ⟨PySem.PyData.keyHash w.params ⟨#[98, 114, 97, 99, 107, 101, 116, 101, 100]⟩, (.str ⟨#[98, 114, 97, 99, 107, 101, 116, 101, 100]⟩ 1204), (.ref 688)⟩, ⟨PySem.PyData.keyHash w.params ⟨#[70, 73, 82, 83, 84]⟩, (.str ⟨#[70, 73, 82, 83, 84]⟩ 1208), (.str ⟨#[107, 110, 111, 119, 110]⟩ 1207)⟩, ⟨PySem.PyData.keyHash w.params ⟨#[65, 83, 83, 73, 71, 78, 95, 108, 105, 110, 101, 115]⟩, (.str ⟨#[65, 83, 83, 73, 71, 78, 95, 108, 105, 110, 101, 115]⟩ 1215), (.ref 692)⟩, ⟨PySem.PyData.keyHash w.params ⟨#[114, 101, 97, 100, 95, 108, 105, 110, 101, 115]⟩, (.str ⟨#[114, 101, 97, 100, 95, 108, 105, 110, 101, 115]⟩ 1226), (.ref 699)⟩, ⟨PySem.PyData.keyHash w.params ⟨#[114, 101, 97, 100, 95, 107, 110, 111, 119, 110]⟩, (.str ⟨#[114, 101, 97, 100, 95, 107, 110, 111, 119, 110]⟩ 1232), (.ref 704)⟩, ⟨PySem.PyData.keyHash w.params ⟨#[105, 110, 100, 101, 110, 116, 97, 116, 105, 111, 110]⟩, (.str ⟨#[105, 110, 100, 101, 110, 116, 97, 116, 105, 111, 110]⟩ 1239), (.ref 711)⟩, ⟨PySem.PyData.keyHash w.params ⟨#[114, 101, 97, 100, 95, 98, 108, 111, 99, 107]⟩, (.str ⟨#[114, 101, 97, 100, 95, 98, 108, 111, 99, 107]⟩ 1251), (.ref 718)⟩, ⟨PySem.PyData.keyHash w.params ⟨#[114, 101, 97, 100, 95, 115, 116, 97, 116, 101, 109, 101, 110, 116]⟩, (.str ⟨#[114, 101, 97, 100, 95, 115, 116, 97, 116, 101, 109, 101, 110, 116]⟩ 1267), (.ref 725)⟩, ⟨PySem.PyData.keyHash w.params ⟨#[114, 101, 97, 100, 95, 105, 110, 110, 101, 114]⟩, (.str ⟨#[114, 101, 97, 100, 95, 105, 110, 110, 101, 114]⟩ 1278), (.ref 732)⟩, ⟨PySem.PyData.keyHash w.params ⟨#[114, 101, 97, 100, 95, 104, 101, 97, 100]⟩, (.str ⟨#[114, 101, 97, 100, 95, 104, 101, 97, 100]⟩ 1294), (.ref 739)⟩, ⟨PySem.PyData.keyHash w.params ⟨#[104, 101, 97, 100, 95, 111, 102]⟩, (.str ⟨#[104, 101, 97, 100, 95, 111, 102]⟩ 1305), (.ref 746)⟩, ⟨PySem.PyData.keyHash w.params ⟨#[83, 73, 71, 78, 95, 79, 70]⟩, (.str ⟨#[83, 73, 71, 78, 95, 79, 70]⟩ 1344), (.ref 747)⟩, ⟨PySem.PyData.keyHash w.params ⟨#[65, 83, 83, 73, 71, 78, 95, 119, 114, 105, 116, 105, 110, 103]⟩, (.str ⟨#[65, 83, 83, 73, 71, 78, 95, 119, 114, 105, 116, 105, 110, 103]⟩ 1354), (.ref 748)⟩, ⟨PySem.PyData.keyHash w.params ⟨#[112, 97, 116, 116, 101, 114, 110, 95, 116, 101, 120, 116]⟩, (.str ⟨#[112, 97, 116, 116, 101, 114, 110, 95, 116, 101, 120, 116]⟩ 1361), (.ref 755)⟩, ⟨PySem.PyData.keyHash w.params ⟨#[116, 114, 101, 101, 95, 116, 101, 120, 116]⟩, (.str ⟨#[116, 114, 101, 101, 95, 116, 101, 120, 116]⟩ 1367), (.ref 760)⟩, ⟨PySem.PyData.keyHash w.params ⟨#[103, 97, 116, 104, 101, 114, 95, 116, 101, 120, 116]⟩, (.str ⟨#[103, 97, 116, 104, 101, 114, 95, 116, 101, 120, 116]⟩ 1373), (.ref 765)⟩, ⟨PySem.PyData.keyHash w.params ⟨#[115, 116, 97, 116, 101, 109, 101, 110, 116, 95, 108, 105, 110, 101, 115]⟩, (.str ⟨#[115, 116, 97, 116, 101, 109, 101, 110, 116, 95, 108, 105, 110, 101, 115]⟩ 1379), (.ref 770)⟩, ⟨PySem.PyData.keyHash w.params ⟨#[108, 105, 110, 101, 115, 95, 111, 102]⟩, (.str ⟨#[108, 105, 110, 101, 115, 95, 111, 102]⟩ 1390), (.ref 777)⟩, ⟨PySem.PyData.keyHash w.params ⟨#[112, 114, 111, 103, 114, 97, 109, 95, 116, 101, 120, 116]⟩, (.str ⟨#[112, 114, 111, 103, 114, 97, 109, 95, 116, 101, 120, 116]⟩ 1399), (.ref 784)⟩, ⟨PySem.PyData.keyHash w.params ⟨#[80, 114, 111, 103, 114, 97, 109]⟩, (.str ⟨#[80, 114, 111, 103, 114, 97, 109]⟩ 1493), (.ref 848)⟩, ⟨PySem.PyData.keyHash w.params ⟨#[99, 104, 97, 105, 110, 101, 100]⟩, (.str ⟨#[99, 104, 97, 105, 110, 101, 100]⟩ 1499), (.ref 857)⟩, ⟨PySem.PyData.keyHash w.params ⟨#[105, 115, 95, 119, 104, 111, 108, 101]⟩, (.str ⟨#[105, 115, 95, 119, 104, 111, 108, 101]⟩ 1508), (.ref 864)⟩, ⟨PySem.PyData.keyHash w.params ⟨#[119, 104, 111, 108, 101, 95, 108, 105, 115, 116]⟩, (.str ⟨#[119, 104, 111, 108, 101, 95, 108, 105, 115, 116]⟩ 1514), (.ref 869)⟩, ⟨PySem.PyData.keyHash w.params ⟨#[116, 114, 105, 109, 109, 101, 100]⟩, (.str ⟨#[116, 114, 105, 109, 109, 101, 100]⟩ 1522), (.ref 876)⟩, ⟨PySem.PyData.keyHash w.params ⟨#[119, 104, 111, 108, 101, 95, 114, 111, 119]⟩, (.str ⟨#[119, 104, 111, 108, 101, 95, 114, 111, 119]⟩ 1529), (.ref 883)⟩, ⟨PySem.PyData.keyHash w.params ⟨#[114, 111, 119, 95, 118, 97, 108, 117, 101]⟩, (.str ⟨#[114, 111, 119, 95, 118, 97, 108, 117, 101]⟩ 1541), (.ref 890)⟩, ⟨PySem.PyData.keyHash w.params ⟨#[100, 105, 102, 102, 101, 114, 101, 110, 99, 101, 115]⟩, (.str ⟨#[100, 105, 102, 102, 101, 114, 101, 110, 99, 101, 115]⟩ 1547), (.ref 895)⟩, ⟨PySem.PyData.keyHash w.params ⟨#[114, 111, 119, 95, 109, 111, 118, 101, 100]⟩, (.str ⟨#[114, 111, 119, 95, 109, 111, 118, 101, 100]⟩ 1553), (.ref 900)⟩, ⟨PySem.PyData.keyHash w.params ⟨#[110, 101, 103, 97, 116, 101, 100]⟩, (.str ⟨#[110, 101, 103, 97, 116, 101, 100]⟩ 1559), (.ref 905)⟩, ⟨PySem.PyData.keyHash w.params ⟨#[97, 100, 100, 95, 114, 111, 119, 115]⟩, (.str ⟨#[97, 100, 100, 95, 114, 111, 119, 115]⟩ 1565), (.ref 910)⟩, ⟨PySem.PyData.keyHash w.params ⟨#[116, 97, 107, 101, 95, 114, 111, 119, 115]⟩, (.str ⟨#[116, 97, 107, 101, 95, 114, 111, 119, 115]⟩ 1573), (.ref 917)⟩, ⟨PySem.PyData.keyHash w.params ⟨#[109, 117, 108, 116, 105, 112, 108, 121, 95, 114, 111, 119, 115]⟩, (.str ⟨#[109, 117, 108, 116, 105, 112, 108, 121, 95, 114, 111, 119, 115]⟩ 1579), (.ref 922)⟩, ⟨PySem.PyData.keyHash w.params ⟨#[102, 97, 108, 108, 105, 110, 103, 95, 114, 111, 119]⟩, (.str ⟨#[102, 97, 108, 108, 105, 110, 103, 95, 114, 111, 119]⟩ 1589), (.ref 929)⟩, ⟨PySem.PyData.keyHash w.params ⟨#[115, 105, 103, 110, 95, 111, 102]⟩, (.str ⟨#[115, 105, 103, 110, 95, 111, 102]⟩ 1596), (.ref 936)⟩, ⟨PySem.PyData.keyHash w.params ⟨#[102, 105, 114, 115, 116, 95, 102, 114, 111, 109]⟩, (.str ⟨#[102, 105, 114, 115, 116, 95, 102, 114, 111, 109]⟩ 1608), (.ref 943)⟩, ⟨PySem.PyData.keyHash w.params ⟨#[99, 117, 116, 95, 98, 121, 95, 115, 105, 103, 110]⟩, (.str ⟨#[99, 117, 116, 95, 98, 121, 95, 115, 105, 103, 110]⟩ 1614), (.ref 948)⟩, ⟨PySem.PyData.keyHash w.params ⟨#[106, 111, 105, 110, 101, 100, 95, 115, 105, 103, 110, 115]⟩, (.str ⟨#[106, 111, 105, 110, 101, 100, 95, 115, 105, 103, 110, 115]⟩ 1625), (.ref 955)⟩, ⟨PySem.PyData.keyHash w.params ⟨#[115, 105, 103, 110, 115, 95, 111, 102]⟩, (.str ⟨#[115, 105, 103, 110, 115, 95, 111, 102]⟩ 1631), (.ref 960)⟩, ⟨PySem.PyData.keyHash w.params ⟨#[108, 101, 97, 115, 116, 95, 115, 105, 103, 110]⟩, (.str ⟨#[108, 101, 97, 115, 116, 95, 115, 105, 103, 110]⟩ 1637), (.ref 965)⟩, ⟨PySem.PyData.keyHash w.params ⟨#[114, 111, 119, 95, 111, 102]⟩, (.str ⟨#[114, 111, 119, 95, 111, 102]⟩ 1644), (.ref 972)⟩, ⟨PySem.PyData.keyHash w.params ⟨#[83, 105, 122, 101]⟩, (.str ⟨#[83, 105, 122, 101]⟩ 1887), (.ref 1152)⟩, ⟨PySem.PyData.keyHash w.params ⟨#[85, 78, 73, 79, 78]⟩, (.str ⟨#[85, 78, 73, 79, 78]⟩ 1890), (.ref 1157)⟩, ⟨PySem.PyData.keyHash w.params ⟨#[77, 69, 69, 84]⟩, (.str ⟨#[77, 69, 69, 84]⟩ 1891), (.ref 1158)⟩, ⟨PySem.PyData.keyHash w.params ⟨#[87, 73, 84, 72, 79, 85, 84]⟩, (.str ⟨#[87, 73, 84, 72, 79, 85, 84]⟩ 1892), (.ref 1159)⟩, ⟨PySem.PyData.keyHash w.params ⟨#[69, 73, 84, 72, 69, 82]⟩, (.str ⟨#[69, 73, 84, 72, 69, 82]⟩ 1893), (.ref 1160)⟩, ⟨PySem.PyData.keyHash w.params ⟨#[69, 86, 69, 82, 89]⟩, (.str ⟨#[69, 86, 69, 82, 89]⟩ 1895), (.ref 1162)⟩, ⟨PySem.PyData.keyHash w.params ⟨#[105, 115, 95, 115, 116, 114, 101, 116, 99, 104]⟩, (.str ⟨#[105, 115, 95, 115, 116, 114, 101, 116, 99, 104]⟩ 1904), (.ref 1169)⟩, ⟨PySem.PyData.keyHash w.params ⟨#[116, 117, 114, 110, 105, 110, 103, 95, 112, 111, 105, 110, 116, 115]⟩, (.str ⟨#[116, 117, 114, 110, 105, 110, 103, 95, 112, 111, 105, 110, 116, 115]⟩ 1910), (.ref 1174)⟩, ⟨PySem.PyData.keyHash w.params ⟨#[112, 97, 105, 114, 101, 100]⟩, (.str ⟨#[112, 97, 105, 114, 101, 100]⟩ 1916), (.ref 1179)⟩, ⟨PySem.PyData.keyHash w.params ⟨#[99, 111, 109, 98, 105, 110, 101, 100]⟩, (.str ⟨#[99, 111, 109, 98, 105, 110, 101, 100]⟩ 1931), (.ref 1186)⟩, ⟨PySem.PyData.keyHash w.params ⟨#[115, 112, 97, 110, 95, 109, 111, 118, 101, 100]⟩, (.str ⟨#[115, 112, 97, 110, 95, 109, 111, 118, 101, 100]⟩ 1937), (.ref 1191)⟩, ⟨PySem.PyData.keyHash w.params ⟨#[108, 105, 101, 115, 95, 105, 110]⟩, (.str ⟨#[108, 105, 101, 115, 95, 105, 110]⟩ 1943), (.ref 1196)⟩, ⟨PySem.PyData.keyHash w.params ⟨#[115, 116, 114, 101, 116, 99, 104, 95, 116, 101, 120, 116]⟩, (.str ⟨#[115, 116, 114, 101, 116, 99, 104, 95, 116, 101, 120, 116]⟩ 1951), (.ref 1203)⟩, ⟨PySem.PyData.keyHash w.params ⟨#[83, 112, 97, 110]⟩, (.str ⟨#[83, 112, 97, 110]⟩ 2210), (.ref 1402)⟩, ⟨PySem.PyData.keyHash w.params ⟨#[72, 79, 76, 68, 83]⟩, (.str ⟨#[72, 79, 76, 68, 83]⟩ 2237), (.ref 1407)⟩] 131), #[]⟩, boot_o_4 w.params, boot_o_5 w.params, boot_o_6 w.params, boot_o_7 w.params, boot_o_8 w.params, boot_o_9 w.params, boot_o_10 w.params, ⟨(.type "tuple"), none, (.seq #[] 0), #[]⟩, ⟨.none, none, (.fields #[(.int 1 0), (.int 0 0), (.ref 20), (.int 5 0), (.int 0 0), (.ref 27), (.int 7 0), (.int 0 0), (.ref 41), (.int 12 0), (.int 0 0), (.ref 62), (.int 17 0), (.int 0 0), (.ref 83), (.int 22 0), (.int 0 0), (.ref 104), (.int 28 0), (.int 0 0), (.ref 125), (.int 33 0), (.int 0 0), (.ref 146), (.int 38 0), (.int 0 0), (.ref 167), (.int 43 0), (.int 0 0), (.ref 187), (.int 45 0), (.int 0 0), (.ref 200), (.int 50 0), (.int 0 0), (.ref 221), (.int 56 0), (.int 0 0), (.ref 242), (.int 63 0), (.int 0 0), (.ref 263), (.int 69 0), (.int 0 0), (.ref 284), (.int 75 0), (.int 0 0), (.ref 304), (.int 87 0), (.int 0 0), (.ref 309), (.int 89 0), (.int 0 0), (.ref 316), (.int 91 0), (.int 0 0), (.ref 323), (.int 93 0), (.int 0 0), (.ref 328), (.int 107 0), (.int 0 0), (.ref 335), (.int 109 0), (.int 0 0), (.ref 340), (.int 114 0), (.int 0 0), (.ref 345), (.int 117 0), (.int 0 0), (.ref 350), (.int 124 0), (.int 0 0), (.ref 357), (.int 130 0), (.int 0 0), (.ref 364), (.int 132 0), (.int 0 0), (.ref 369), (.int 136 0), (.int 0 0), (.ref 374), (.int 141 0), (.int 0 0), (.ref 381), (.int 155 0), (.int 0 0), (.ref 386), (.int 157 0), (.int 0 0), (.ref 391), (.int 159 0), (.int 0 0), (.ref 396), (.int 161 0), (.int 0 0), (.ref 403), (.int 175 0), (.int 0 0), (.ref 408), (.int 187 0), (.int 0 0), (.ref 413), (.int 198 0), (.int 0 0), (.ref 420), (.int 204 0), (.int 0 0), (.ref 425), (.int 208 0), (.int 0 0), (.ref 430), (.int 223 0), (.int 0 0), (.ref 435), (.int 235 0), (.int 0 0), (.ref 443), (.int 244 0), (.int 0 0), (.ref 468), (.int 248 0), (.int 0 0), (.ref 475), (.int 250 0), (.int 0 0), (.ref 482), (.int 254 0), (.int 0 0), (.ref 487), (.int 263 0), (.int 0 0), (.ref 493), (.int 279 0), (.int 0 0), (.ref 498), (.int 292 0), (.int 0 0), (.ref 505), (.int 302 0), (.int 0 0), (.ref 512), (.int 312 0), (.int 0 0), (.ref 519), (.int 326 0), (.int 0 0), (.ref 528), (.int 337 0), (.int 0 0), (.ref 537), (.int 353 0), (.int 0 0), (.ref 542), (.int 355 0), (.int 0 0), (.ref 549), (.int 372 0), (.int 0 0), (.ref 561), (.int 377 0), (.int 0 0), (.ref 582), (.int 527 0), (.int 0 0), (.ref 687), (.int 542 0), (.int 0 0), (.ref 698), (.int 551 0), (.int 0 0), (.ref 703), (.int 560 0), (.int 0 0), (.ref 710), (.int 562 0), (.int 0 0), (.ref 717), (.int 568 0), (.int 0 0), (.ref 724), (.int 581 0), (.int 0 0), (.ref 731), (.int 587 0), (.int 0 0), (.ref 738), (.int 600 0), (.int 0 0), (.ref 745), (.int 617 0), (.int 0 0), (.ref 754), (.int 621 0), (.int 0 0), (.ref 759), (.int 646 0), (.int 0 0), (.ref 764), (.int 650 0), (.int 0 0), (.ref 769), (.int 652 0), (.int 0 0), (.ref 776), (.int 661 0), (.int 0 0), (.ref 783), (.int 665 0), (.int 0 0), (.ref 790), (.int 701 0), (.int 0 0), (.ref 856), (.int 705 0), (.int 0 0), (.ref 863), (.int 707 0), (.int 0 0), (.ref 868), (.int 709 0), (.int 0 0), (.ref 875), (.int 714 0), (.int 0 0), (.ref 882), (.int 716 0), (.int 0 0), (.ref 889), (.int 723 0), (.int 0 0), (.ref 894), (.int 730 0), (.int 0 0), (.ref 899), (.int 732 0), (.int 0 0), (.ref 904), (.int 734 0), (.int 0 0), (.ref 909), (.int 739 0), (.int 0 0), (.ref 916), (.int 741 0), (.int 0 0), (.ref 921), (.int 745 0), (.int 0 0), (.ref 928), (.int 750 0), (.int 0 0), (.ref 935), (.int 752 0), (.int 0 0), (.ref 942), (.int 765 0), (.int 0 0), (.ref 947), (.int 774 0), (.int 0 0), (.ref 954), (.int 782 0), (.int 0 0), (.ref 959), (.int 788 0), (.int 0 0), (.ref 964), (.int 790 0), (.int 0 0), (.ref 971), (.int 796 0), (.int 0 0), (.ref 978), (.int 922 0), (.int 0 0), (.ref 1168), (.int 929 0), (.int 0 0), (.ref 1173), (.int 931 0), (.int 0 0), (.ref 1178), (.int 934 0), (.int 0 0), (.ref 1185), (.int 952 0), (.int 0 0), (.ref 1190), (.int 955 0), (.int 0 0), (.ref 1195), (.int 957 0), (.int 0 0), (.ref 1202), (.int 961 0), (.int 0 0), (.ref 1209)]), #[]⟩, ⟨(.type "code"), none, (.fields #[(.str ⟨#[60, 109, 111, 100, 117, 108, 101, 62]⟩ 182), (.str ⟨#[60, 109, 111, 100, 117, 108, 101, 62]⟩ 183), (.str ⟨#[47, 99, 108, 97, 105, 109, 47, 99, 117, 116, 46, 112, 121]⟩ 184), (.int 1 0), (.int 0 0), (.int 0 0), (.int 0 0), (.int 0 0), (.ref 11), (.bool false), (.int 181 0), (.ref 12), .none, .none, .none, .none, (.int 185 0), (.int 1 0), (.str ⟨#[47, 99, 108, 97, 105, 109, 47, 99, 117, 116, 46, 112, 121]⟩ 186)]), #[]⟩, ⟨(.type "frame"), none, .plain, #[(some (.ref 13)), (some (.ref 3)), (some (.ref 3)), none, (some (.str ⟨#[95, 95, 109, 97, 105, 110, 95, 95]⟩ 164)), none, (some (.ref 0))]⟩]
def O11 : List Nat := [29, 30, 31, 32, 38, 49, 50, 51, 52, 53, 197, 208, 209, 210, 211, 212, 281, 292, 293, 294, 295, 296, 437, 438, 439, 443, 444, 445, 468, 469, 475, 476, 521, 522, 528, 529, 542, 543, 549, 550, 769, 770, 783, 784, 792, 793, 794, 798, 799, 805, 806, 808, 815, 816, 817, 823, 824, 830, 831, 837, 838, 844, 845, 846, 847, 848, 849, 850, 875, 876, 882, 883, 889, 890]
def A11 : List Nat := []
def G11 (p : Program) (w : World) : List Obj := []
theorem grp11f (w : World) (os : OsState) (g : Nat → Obj) : grpO (HandSHeadRun.stepQ (HandSHeadRun.denQ HandSHeadRun.tabQ) PySem.W.Fast.tw10313853756172224601 (w.withFollow "special-get-raises" false)) 131 (O11 ++ A11) (boot_heap (w.withFollow "special-get-raises" false).params).life boot_drawn 2213 os (F10 (w.withFollow "special-get-raises" false) ++ (List.range 1392).map fun i => g (15 + i)) (piecesOf (((((((((((((((((((((((PySem.W.Fast.tw10313853756172224601).main.body).drop 16)).drop 33)).drop 1)).drop 14)).drop 3)).drop 17)).drop 2)).drop 29)).drop 14)).drop 2)).take 1) (envA PySem.W.Fast.tw10313853756172224601 13 14) (codeA PySem.W.Fast.tw10313853756172224601 13 14) ⟨1092, 0, 1092, 8⟩ [topFrame ⟨0, 0, 0, 0⟩]) =
    some (.next, (codeA PySem.W.Fast.tw10313853756172224601 13 14), ⟨1093, 0, 1093, 5⟩, 1414, (boot_heap (w.withFollow "special-get-raises" false).params).life, 0, boot_drawn, 2238, os, (F11 (w.withFollow "special-get-raises" false)).map some, (O11.map g ++ G11 PySem.W.Fast.tw10313853756172224601 (w.withFollow "special-get-raises" false)).map some) := by kernel_rfl
theorem grp11t (w : World) (os : OsState) (g : Nat → Obj) : grpO (HandSHeadRun.stepQ (HandSHeadRun.denQ HandSHeadRun.tabQ) PySem.W.Fast.tw10313853756172224601 (w.withFollow "special-get-raises" true)) 131 (O11 ++ A11) (boot_heap (w.withFollow "special-get-raises" true).params).life boot_drawn 2213 os (F10 (w.withFollow "special-get-raises" true) ++ (List.range 1392).map fun i => g (15 + i)) (piecesOf (((((((((((((((((((((((PySem.W.Fast.tw10313853756172224601).main.body).drop 16)).drop 33)).drop 1)).drop 14)).drop 3)).drop 17)).drop 2)).drop 29)).drop 14)).drop 2)).take 1) (envA PySem.W.Fast.tw10313853756172224601 13 14) (codeA PySem.W.Fast.tw10313853756172224601 13 14) ⟨1092, 0, 1092, 8⟩ [topFrame ⟨0, 0, 0, 0⟩]) =
    some (.next, (codeA PySem.W.Fast.tw10313853756172224601 13 14), ⟨1093, 0, 1093, 5⟩, 1414, (boot_heap (w.withFollow "special-get-raises" true).params).life, 0, boot_drawn, 2238, os, (F11 (w.withFollow "special-get-raises" true)).map some, (O11.map g ++ G11 PySem.W.Fast.tw10313853756172224601 (w.withFollow "special-get-raises" true)).map some) := by kernel_rfl
theorem grp11 (w : World) : ∀ (os : OsState) (g : Nat → Obj), grpO (HandSHeadRun.stepQ (HandSHeadRun.denQ HandSHeadRun.tabQ) PySem.W.Fast.tw10313853756172224601 w) 131 (O11 ++ A11) (boot_heap w.params).life boot_drawn 2213 os (F10 w ++ (List.range 1392).map fun i => g (15 + i)) (piecesOf (((((((((((((((((((((((PySem.W.Fast.tw10313853756172224601).main.body).drop 16)).drop 33)).drop 1)).drop 14)).drop 3)).drop 17)).drop 2)).drop 29)).drop 14)).drop 2)).take 1) (envA PySem.W.Fast.tw10313853756172224601 13 14) (codeA PySem.W.Fast.tw10313853756172224601 13 14) ⟨1092, 0, 1092, 8⟩ [topFrame ⟨0, 0, 0, 0⟩]) =
    some (.next, (codeA PySem.W.Fast.tw10313853756172224601 13 14), ⟨1093, 0, 1093, 5⟩, 1414, (boot_heap w.params).life, 0, boot_drawn, 2238, os, (F11 w).map some, (O11.map g ++ G11 PySem.W.Fast.tw10313853756172224601 w).map some) := byRow2 (P := fun w => ∀ (os : OsState) (g : Nat → Obj), grpO (HandSHeadRun.stepQ (HandSHeadRun.denQ HandSHeadRun.tabQ) PySem.W.Fast.tw10313853756172224601 w) 131 (O11 ++ A11) (boot_heap w.params).life boot_drawn 2213 os (F10 w ++ (List.range 1392).map fun i => g (15 + i)) (piecesOf (((((((((((((((((((((((PySem.W.Fast.tw10313853756172224601).main.body).drop 16)).drop 33)).drop 1)).drop 14)).drop 3)).drop 17)).drop 2)).drop 29)).drop 14)).drop 2)).take 1) (envA PySem.W.Fast.tw10313853756172224601 13 14) (codeA PySem.W.Fast.tw10313853756172224601 13 14) ⟨1092, 0, 1092, 8⟩ [topFrame ⟨0, 0, 0, 0⟩]) =
    some (.next, (codeA PySem.W.Fast.tw10313853756172224601 13 14), ⟨1093, 0, 1093, 5⟩, 1414, (boot_heap w.params).life, 0, boot_drawn, 2238, os, (F11 w).map some, (O11.map g ++ G11 PySem.W.Fast.tw10313853756172224601 w).map some)) "special-get-raises" (fun w => grp11f w) (fun w => grp11t w) w
def F12 (w : World) : List Obj := [boot_o_0 w.params, boot_o_1 w.params, ⟨.none, none, (.dict #[⟨PySem.PyData.keyHash w.params ⟨#[116, 121, 112, 101, 46, 95, 95, 115, 117, 98, 99, 108, 97, 115, 115, 101, 115, 95, 95, 46, 69, 120, 99, 101, 112, 116, 105, 111, 110, 46, 48]⟩, (.str ⟨#[116, 121, 112, 101, 46, 95, 95, 115, 117, 98, 99, 108, 97, 115, 115, 101, 115, 95, 95, 46, 69, 120, 99, 101, 112, 116, 105, 111, 110, 46, 48]⟩ 1035), (.int 573 0)⟩, ⟨PySem.PyData.keyHash w.params ⟨#[116, 121, 112, 101, 46, 95, 95, 115, 117, 98, 99, 108, 97, 115, 115, 101, 115, 95, 95, 46, 69, 120, 99, 101, 112, 116, 105, 111, 110, 46, 110]⟩, (.str ⟨#[116, 121, 112, 101, 46, 95, 95, 115, 117, 98, 99, 108, 97, 115, 115, 101, 115, 95, 95, 46, 69, 120, 99, 101, 112, 116, 105, 111, 110, 46, 110]⟩ 1036), (.int 1 0)⟩] 2), #[]⟩, ⟨(.type "dict"), none, (.dict #[⟨PySem.PyData.keyHash w.params ⟨#[95, 95, 110, 97, 109, 101, 95, 95]⟩, (.str ⟨#[95, 95, 110, 97, 109, 101, 95, 95]⟩ 165), (.str ⟨#[101, 118, 101, 114, 121, 110, 97, 109, 101, 46, 115, 116, 114, 101, 116, 99, 104, 101, 115]⟩ 2806)⟩, ⟨PySem.PyData.keyHash w.params ⟨#[95, 95, 100, 111, 99, 95, 95]⟩, (.str ⟨#[95, 95, 100, 111, 99, 95, 95]⟩ 166), .none⟩, ⟨PySem.PyData.keyHash w.params ⟨#[95, 95, 112, 97, 99, 107, 97, 103, 101, 95, 95]⟩, (.str ⟨#[95, 95, 112, 97, 99, 107, 97, 103, 101, 95, 95]⟩ 167), .none⟩, ⟨PySem.PyData.keyHash w.params ⟨#[95, 95, 108, 111, 97, 100, 101, 114, 95, 95]⟩, (.str ⟨#[95, 95, 108, 111, 97, 100, 101, 114, 95, 95]⟩ 168), (.builtin "__main__.__loader__#opaque")⟩, ⟨PySem.PyData.keyHash w.params ⟨#[95, 95, 115, 112, 101, 99, 95, 95]⟩, (.str ⟨#[95, 95, 115, 112, 101, 99, 95, 95]⟩ 169), .none⟩, ⟨PySem.PyData.keyHash w.params ⟨#[95, 95, 97, 110, 110, 111, 116, 97, 116, 105, 111, 110, 115, 95, 95]⟩, (.str ⟨#[95, 95, 97, 110, 110, 111, 116, 97, 116, 105, 111, 110, 115, 95, 95]⟩ 170), (.ref 6)⟩, ⟨PySem.PyData.keyHash w.params ⟨#[95, 95, 98, 117, 105, 108, 116, 105, 110, 115, 95, 95]⟩, (.str ⟨#[95, 95, 98, 117, 105, 108, 116, 105, 110, 115, 95, 95]⟩ 171), (.ref 4)⟩, ⟨PySem.PyData.keyHash w.params ⟨#[95, 95, 102, 105, 108, 101, 95, 95]⟩, (.str ⟨#[95, 95, 102, 105, 108, 101, 95, 95]⟩ 173), (.str ⟨#[47, 99, 108, 97, 105, 109, 47, 99, 117, 116, 46, 112, 121]⟩ 172)⟩, ⟨PySem.PyData.keyHash w.params ⟨#[95, 95, 99, 97, 99, 104, 101, 100, 95, 95]⟩, (.str ⟨#[95, 95, 99, 97, 99, 104, 101, 100, 95, 95]⟩ 174), .none⟩, ⟨PySem.PyData.keyHash w.params ⟨#[95, 119, 97, 108, 108]⟩, (.str ⟨#[95, 119, 97, 108, 108]⟩ 193), (.ref 21)⟩, ⟨PySem.PyData.keyHash w.params ⟨#[69, 118, 101, 114, 121, 110, 97, 109, 101, 69, 114, 114, 111, 114]⟩, (.str ⟨#[69, 118, 101, 114, 121, 110, 97, 109, 101, 69, 114, 114, 111, 114]⟩ 213), (.ref 31)⟩, ⟨PySem.PyData.keyHash w.params ⟨#[66, 97, 100, 80, 114, 111, 103, 114, 97, 109]⟩, (.str ⟨#[66, 97, 100, 80, 114, 111, 103, 114, 97, 109]⟩ 240), (.ref 53)⟩, ⟨PySem.PyData.keyHash w.params ⟨#[66, 97, 100, 84, 101, 120, 116]⟩, (.str ⟨#[66, 97, 100, 84, 101, 120, 116]⟩ 267), (.ref 74)⟩, ⟨PySem.PyData.keyHash w.params ⟨#[66, 97, 100, 86, 97, 108, 117, 101]⟩, (.str ⟨#[66, 97, 100, 86, 97, 108, 117, 101]⟩ 294), (.ref 95)⟩, ⟨PySem.PyData.keyHash w.params ⟨#[79, 116, 104, 101, 114, 83, 116, 111, 99, 107]⟩, (.str ⟨#[79, 116, 104, 101, 114, 83, 116, 111, 99, 107]⟩ 323), (.ref 116)⟩, ⟨PySem.PyData.keyHash w.params ⟨#[84, 111, 111, 77, 97, 110, 121]⟩, (.str ⟨#[84, 111, 111, 77, 97, 110, 121]⟩ 350), (.ref 137)⟩, ⟨PySem.PyData.keyHash w.params ⟨#[78, 111, 86, 97, 114, 105, 97, 98, 108, 101]⟩, (.str ⟨#[78, 111, 86, 97, 114, 105, 97, 98, 108, 101]⟩ 377), (.ref 158)⟩, ⟨PySem.PyData.keyHash w.params ⟨#[78, 111, 116, 69, 120, 97, 99, 116]⟩, (.str ⟨#[78, 111, 116, 69, 120, 97, 99, 116]⟩ 404), (.ref 179)⟩, ⟨PySem.PyData.keyHash w.params ⟨#[69, 109, 112, 116, 121, 83, 112, 97, 110]⟩, (.str ⟨#[69, 109, 112, 116, 121, 83, 112, 97, 110]⟩ 420), (.ref 191)⟩, ⟨PySem.PyData.keyHash w.params ⟨#[66, 97, 100, 78, 97, 109, 101]⟩, (.str ⟨#[66, 97, 100, 78, 97, 109, 101]⟩ 447), (.ref 212)⟩, ⟨PySem.PyData.keyHash w.params ⟨#[66, 97, 100, 82, 117, 108, 101]⟩, (.str ⟨#[66, 97, 100, 82, 117, 108, 101]⟩ 476), (.ref 233)⟩, ⟨PySem.PyData.keyHash w.params ⟨#[82, 101, 115, 116, 108, 101, 115, 115]⟩, (.str ⟨#[82, 101, 115, 116, 108, 101, 115, 115]⟩ 507), (.ref 254)⟩, ⟨PySem.PyData.keyHash w.params ⟨#[66, 114, 111, 107, 101, 110]⟩, (.str ⟨#[66, 114, 111, 107, 101, 110]⟩ 536), (.ref 275)⟩, ⟨PySem.PyData.keyHash w.params ⟨#[83, 101, 97, 109]⟩, (.str ⟨#[83, 101, 97, 109]⟩ 563), (.ref 296)⟩, ⟨PySem.PyData.keyHash w.params ⟨#[111, 99, 99, 117, 114, 114, 105, 110, 103]⟩, (.str ⟨#[111, 99, 99, 117, 114, 114, 105, 110, 103]⟩ 575), (.ref 305)⟩, ⟨PySem.PyData.keyHash w.params ⟨#[97, 115, 99, 101, 110, 100, 105, 110, 103]⟩, (.str ⟨#[97, 115, 99, 101, 110, 100, 105, 110, 103]⟩ 581), (.ref 310)⟩, ⟨PySem.PyData.keyHash w.params ⟨#[102, 114, 101, 101]⟩, (.str ⟨#[102, 114, 101, 101]⟩ 588), (.ref 317)⟩, ⟨PySem.PyData.keyHash w.params ⟨#[103, 114, 101, 97, 116, 101, 115, 116]⟩, (.str ⟨#[103, 114, 101, 97, 116, 101, 115, 116]⟩ 595), (.ref 324)⟩, ⟨PySem.PyData.keyHash w.params ⟨#[112, 117, 116]⟩, (.str ⟨#[112, 117, 116]⟩ 601), (.ref 329)⟩, ⟨PySem.PyData.keyHash w.params ⟨#[102, 114, 101, 115, 104]⟩, (.str ⟨#[102, 114, 101, 115, 104]⟩ 609), (.ref 336)⟩, ⟨PySem.PyData.keyHash w.params ⟨#[119, 97, 121, 115]⟩, (.str ⟨#[119, 97, 121, 115]⟩ 615), (.ref 341)⟩, ⟨PySem.PyData.keyHash w.params ⟨#[108, 111, 110, 103, 101, 114, 95, 119, 97, 121, 115]⟩, (.str ⟨#[108, 111, 110, 103, 101, 114, 95, 119, 97, 121, 115]⟩ 621), (.ref 346)⟩, ⟨PySem.PyData.keyHash w.params ⟨#[119, 105, 100, 101, 110, 101, 100]⟩, (.str ⟨#[119, 105, 100, 101, 110, 101, 100]⟩ 627), (.ref 351)⟩, ⟨PySem.PyData.keyHash w.params ⟨#[101, 110, 111, 117, 103, 104]⟩, (.str ⟨#[101, 110, 111, 117, 103, 104]⟩ 636), (.ref 358)⟩, ⟨PySem.PyData.keyHash w.params ⟨#[115, 116, 97, 110, 100, 115]⟩, (.str ⟨#[115, 116, 97, 110, 100, 115]⟩ 646), (.ref 365)⟩, ⟨PySem.PyData.keyHash w.params ⟨#[102, 105, 108, 108, 105, 110, 103, 115]⟩, (.str ⟨#[102, 105, 108, 108, 105, 110, 103, 115]⟩ 652), (.ref 370)⟩, ⟨PySem.PyData.keyHash w.params ⟨#[116, 111, 108, 100, 95, 116, 101, 114, 109, 115]⟩, (.str ⟨#[116, 111, 108, 100, 95, 116, 101, 114, 109, 115]⟩ 658), (.ref 375)⟩, ⟨PySem.PyData.keyHash w.params ⟨#[117, 110, 108, 105, 107, 101]⟩, (.str ⟨#[117, 110, 108, 105, 107, 101]⟩ 668), (.ref 382)⟩, ⟨PySem.PyData.keyHash w.params ⟨#[101, 113, 117, 97, 108, 95, 108, 105, 115, 116, 115]⟩, (.str ⟨#[101, 113, 117, 97, 108, 95, 108, 105, 115, 116, 115]⟩ 674), (.ref 387)⟩, ⟨PySem.PyData.keyHash w.params ⟨#[105, 115, 95, 102, 108, 97, 116]⟩, (.str ⟨#[105, 115, 95, 102, 108, 97, 116]⟩ 680), (.ref 392)⟩, ⟨PySem.PyData.keyHash w.params ⟨#[102, 108, 97, 116, 95, 114, 111, 119, 115]⟩, (.str ⟨#[102, 108, 97, 116, 95, 114, 111, 119, 115]⟩ 686), (.ref 397)⟩, ⟨PySem.PyData.keyHash w.params ⟨#[115, 97, 109, 101]⟩, (.str ⟨#[115, 97, 109, 101]⟩ 699), (.ref 404)⟩, ⟨PySem.PyData.keyHash w.params ⟨#[109, 101, 109, 98, 101, 114]⟩, (.str ⟨#[109, 101, 109, 98, 101, 114]⟩ 705), (.ref 409)⟩, ⟨PySem.PyData.keyHash w.params ⟨#[119, 105, 116, 104, 105, 110]⟩, (.str ⟨#[119, 105, 116, 104, 105, 110]⟩ 711), (.ref 414)⟩, ⟨PySem.PyData.keyHash w.params ⟨#[104, 97, 115, 95, 115, 101, 116]⟩, (.str ⟨#[104, 97, 115, 95, 115, 101, 116]⟩ 719), (.ref 421)⟩, ⟨PySem.PyData.keyHash w.params ⟨#[114, 111, 119, 95, 111, 118, 101, 114]⟩, (.str ⟨#[114, 111, 119, 95, 111, 118, 101, 114]⟩ 725), (.ref 426)⟩, ⟨PySem.PyData.keyHash w.params ⟨#[98, 117, 105, 108, 116]⟩, (.str ⟨#[98, 117, 105, 108, 116]⟩ 731), (.ref 431)⟩, ⟨PySem.PyData.keyHash w.params ⟨#[115, 104, 105, 102, 116, 101, 100]⟩, (.str ⟨#[115, 104, 105, 102, 116, 101, 100]⟩ 737), (.ref 436)⟩, ⟨PySem.PyData.keyHash w.params ⟨#[69, 77, 80, 84, 89]⟩, (.str ⟨#[69, 77, 80, 84, 89]⟩ 739), (.ref 439)⟩, ⟨PySem.PyData.keyHash w.params ⟨#[115, 116, 111, 99, 107]⟩, (.str ⟨#[115, 116, 111, 99, 107]⟩ 745), (.ref 444)⟩, ⟨PySem.PyData.keyHash w.params ⟨#[82, 69, 83, 69, 82, 86, 69, 68]⟩, (.str ⟨#[82, 69, 83, 69, 82, 86, 69, 68]⟩ 764), (.ref 445)⟩, ⟨PySem.PyData.keyHash w.params ⟨#[68, 69, 69, 80, 69, 83, 84, 95, 116, 114, 101, 101, 115]⟩, (.str ⟨#[68, 69, 69, 80, 69, 83, 84, 95, 116, 114, 101, 101, 115]⟩ 766), (.int 40 765)⟩, ⟨PySem.PyData.keyHash w.params ⟨#[76, 69, 86, 69, 76, 83]⟩, (.str ⟨#[76, 69, 86, 69, 76, 83]⟩ 768), (.int 10 767)⟩, ⟨PySem.PyData.keyHash w.params ⟨#[71, 82, 69, 65, 84, 69, 83, 84]⟩, (.str ⟨#[71, 82, 69, 65, 84, 69, 83, 84]⟩ 772), (.int 1000000000000000000000000000000000000000000000000000000000000 771)⟩, ⟨PySem.PyData.keyHash w.params ⟨#[83, 73, 71, 78, 83]⟩, (.str ⟨#[83, 73, 71, 78, 83]⟩ 779), (.ref 446)⟩, ⟨PySem.PyData.keyHash w.params ⟨#[80, 76, 65, 73, 78]⟩, (.str ⟨#[80, 76, 65, 73, 78]⟩ 848), (.ref 447)⟩, ⟨PySem.PyData.keyHash w.params ⟨#[105, 115, 95, 119, 111, 114, 100]⟩, (.str ⟨#[105, 115, 95, 119, 111, 114, 100]⟩ 854), (.ref 469)⟩, ⟨PySem.PyData.keyHash w.params ⟨#[105, 115, 95, 110, 97, 109, 101]⟩, (.str ⟨#[105, 115, 95, 110, 97, 109, 101]⟩ 861), (.ref 476)⟩, ⟨PySem.PyData.keyHash w.params ⟨#[112, 97, 116, 116, 101, 114, 110, 95, 118, 97, 114, 105, 97, 98, 108, 101, 115]⟩, (.str ⟨#[112, 97, 116, 116, 101, 114, 110, 95, 118, 97, 114, 105, 97, 98, 108, 101, 115]⟩ 868), (.ref 483)⟩, ⟨PySem.PyData.keyHash w.params ⟨#[103, 111, 111, 100, 95, 112, 97, 116, 116, 101, 114, 110]⟩, (.str ⟨#[103, 111, 111, 100, 95, 112, 97, 116, 116, 101, 114, 110]⟩ 874), (.ref 488)⟩, ⟨PySem.PyData.keyHash w.params ⟨#[103, 111, 111, 100]⟩, (.str ⟨#[103, 111, 111, 100]⟩ 881), (.ref 494)⟩, ⟨PySem.PyData.keyHash w.params ⟨#[103, 111, 111, 100, 95, 101, 120, 112, 114, 101, 115, 115, 105, 111, 110]⟩, (.str ⟨#[103, 111, 111, 100, 95, 101, 120, 112, 114, 101, 115, 115, 105, 111, 110]⟩ 887), (.ref 499)⟩, ⟨PySem.PyData.keyHash w.params ⟨#[103, 111, 111, 100, 95, 103, 97, 116, 104, 101, 114]⟩, (.str ⟨#[103, 111, 111, 100, 95, 103, 97, 116, 104, 101, 114]⟩ 898), (.ref 506)⟩, ⟨PySem.PyData.keyHash w.params ⟨#[103, 111, 111, 100, 95, 116, 101, 115, 116]⟩, (.str ⟨#[103, 111, 111, 100, 95, 116, 101, 115, 116]⟩ 908), (.ref 513)⟩, ⟨PySem.PyData.keyHash w.params ⟨#[103, 111, 111, 100, 95, 104, 101, 97, 100]⟩, (.str ⟨#[103, 111, 111, 100, 95, 104, 101, 97, 100]⟩ 918), (.ref 520)⟩, ⟨PySem.PyData.keyHash w.params ⟨#[119, 114, 111, 110, 103, 95, 112, 108, 97, 99, 101]⟩, (.str ⟨#[119, 114, 111, 110, 103, 95, 112, 108, 97, 99, 101]⟩ 935), (.ref 529)⟩, ⟨PySem.PyData.keyHash w.params ⟨#[102, 114, 101, 101, 95, 118, 97, 114, 105, 97, 98, 108, 101, 115]⟩, (.str ⟨#[102, 114, 101, 101, 95, 118, 97, 114, 105, 97, 98, 108, 101, 115]⟩ 947), (.ref 538)⟩, ⟨PySem.PyData.keyHash w.params ⟨#[106, 111, 105, 110, 101, 100]⟩, (.str ⟨#[106, 111, 105, 110, 101, 100]⟩ 953), (.ref 543)⟩, ⟨PySem.PyData.keyHash w.params ⟨#[115, 116, 97, 116, 101, 95, 118, 97, 114, 105, 97, 98, 108, 101, 115]⟩, (.str ⟨#[115, 116, 97, 116, 101, 95, 118, 97, 114, 105, 97, 98, 108, 101, 115]⟩ 963), (.ref 550)⟩, ⟨PySem.PyData.keyHash w.params ⟨#[86, 65, 76, 85, 69, 95, 83, 73, 71, 78, 83]⟩, (.str ⟨#[86, 65, 76, 85, 69, 95, 83, 73, 71, 78, 83]⟩ 978), (.ref 551)⟩, ⟨PySem.PyData.keyHash w.params ⟨#[84, 69, 83, 84, 95, 83, 73, 71, 78, 83]⟩, (.str ⟨#[84, 69, 83, 84, 95, 83, 73, 71, 78, 83]⟩ 988), (.ref 552)⟩, ⟨PySem.PyData.keyHash w.params ⟨#[78, 85, 77, 66, 69, 82, 95, 83, 73, 71, 78, 83]⟩, (.str ⟨#[78, 85, 77, 66, 69, 82, 95, 83, 73, 71, 78, 83]⟩ 998), (.ref 553)⟩, ⟨PySem.PyData.keyHash w.params ⟨#[67, 79, 77, 80, 65, 82, 69]⟩, (.str ⟨#[67, 79, 77, 80, 65, 82, 69]⟩ 1005), (.ref 554)⟩, ⟨PySem.PyData.keyHash w.params ⟨#[68, 69, 69, 80, 69, 83, 84, 95, 114, 101, 97, 100, 105, 110, 103]⟩, (.str ⟨#[68, 69, 69, 80, 69, 83, 84, 95, 114, 101, 97, 100, 105, 110, 103]⟩ 1007), (.int 40 1006)⟩, ⟨PySem.PyData.keyHash w.params ⟨#[85, 110, 114, 101, 97, 100]⟩, (.str ⟨#[85, 110, 114, 101, 97, 100]⟩ 1038), (.ref 573)⟩, ⟨PySem.PyData.keyHash w.params ⟨#[82, 101, 97, 100, 101, 114]⟩, (.str ⟨#[82, 101, 97, 100, 101, 114]⟩ 1193), (.ref 677)⟩, ⟨PySem.PyData.keyHash w.params ⟨#[98, 114, 97, 99, 107, 101, 116, 101, 100]⟩, (.str ⟨#[98, 114, 97, 99, 107, 101, 116, 101, 100]⟩ 1204), (.ref 688)⟩, ⟨PySem.PyData.keyHash w.params ⟨#[70, 73, 82, 83, 84]⟩, (.str ⟨#[70, 73, 82, 83, 84]⟩ 1208), (.str ⟨#[107, 110, 111, 119, 110]⟩ 1207)⟩, ⟨PySem.PyData.keyHash w.params ⟨#[65, 83, 83, 73, 71, 78, 95, 108, 105, 110, 101, 115]⟩, (.str ⟨#[65, 83, 83, 73, 71, 78, 95, 108, 105, 110, 101, 115]⟩ 1215), (.ref 692)⟩, ⟨PySem.PyData.keyHash w.params ⟨#[114, 101, 97, 100, 95, 108, 105, 110, 101, 115]⟩, (.str ⟨#[114, 101, 97, 100, 95, 108, 105, 110, 101, 115]⟩ 1226), (.ref 699)⟩, ⟨PySem.PyData.keyHash w.params ⟨#[114, 101, 97, 100, 95, 107, 110, 111, 119, 110]⟩, (.str ⟨#[114, 101, 97, 100, 95, 107, 110, 111, 119, 110]⟩ 1232), (.ref 704)⟩, ⟨PySem.PyData.keyHash w.params ⟨#[105, 110, 100, 101, 110, 116, 97, 116, 105, 111, 110]⟩, (.str ⟨#[105, 110, 100, 101, 110, 116, 97, 116, 105, 111, 110]⟩ 1239), (.ref 711)⟩, ⟨PySem.PyData.keyHash w.params ⟨#[114, 101, 97, 100, 95, 98, 108, 111, 99, 107]⟩, (.str ⟨#[114, 101, 97, 100, 95, 98, 108, 111, 99, 107]⟩ 1251), (.ref 718)⟩, ⟨PySem.PyData.keyHash w.params ⟨#[114, 101, 97, 100, 95, 115, 116, 97, 116, 101, 109, 101, 110, 116]⟩, (.str ⟨#[114, 101, 97, 100, 95, 115, 116, 97, 116, 101, 109, 101, 110, 116]⟩ 1267), (.ref 725)⟩, ⟨PySem.PyData.keyHash w.params ⟨#[114, 101, 97, 100, 95, 105, 110, 110, 101, 114]⟩, (.str ⟨#[114, 101, 97, 100, 95, 105, 110, 110, 101, 114]⟩ 1278), (.ref 732)⟩, ⟨PySem.PyData.keyHash w.params ⟨#[114, 101, 97, 100, 95, 104, 101, 97, 100]⟩, (.str ⟨#[114, 101, 97, 100, 95, 104, 101, 97, 100]⟩ 1294), (.ref 739)⟩, ⟨PySem.PyData.keyHash w.params ⟨#[104, 101, 97, 100, 95, 111, 102]⟩, (.str ⟨#[104, 101, 97, 100, 95, 111, 102]⟩ 1305), (.ref 746)⟩, ⟨PySem.PyData.keyHash w.params ⟨#[83, 73, 71, 78, 95, 79, 70]⟩, (.str ⟨#[83, 73, 71, 78, 95, 79, 70]⟩ 1344), (.ref 747)⟩, ⟨PySem.PyData.keyHash w.params ⟨#[65, 83, 83, 73, 71, 78, 95, 119, 114, 105, 116, 105, 110, 103]⟩, (.str ⟨#[65, 83, 83, 73, 71, 78, 95, 119, 114, 105, 116, 105, 110, 103]⟩ 1354), (.ref 748)⟩, ⟨PySem.PyData.keyHash w.params ⟨#[112, 97, 116, 116, 101, 114, 110, 95, 116, 101, 120, 116]⟩, (.str ⟨#[112, 97, 116, 116, 101, 114, 110, 95, 116, 101, 120, 116]⟩ 1361), (.ref 755)⟩, ⟨PySem.PyData.keyHash w.params ⟨#[116, 114, 101, 101, 95, 116, 101, 120, 116]⟩, (.str ⟨#[116, 114, 101, 101, 95, 116, 101, 120, 116]⟩ 1367), (.ref 760)⟩, ⟨PySem.PyData.keyHash w.params ⟨#[103, 97, 116, 104, 101, 114, 95, 116, 101, 120, 116]⟩, (.str ⟨#[103, 97, 116, 104, 101, 114, 95, 116, 101, 120, 116]⟩ 1373), (.ref 765)⟩, ⟨PySem.PyData.keyHash w.params ⟨#[115, 116, 97, 116, 101, 109, 101, 110, 116, 95, 108, 105, 110, 101, 115]⟩, (.str ⟨#[115, 116, 97, 116, 101, 109, 101, 110, 116, 95, 108, 105, 110, 101, 115]⟩ 1379), (.ref 770)⟩, ⟨PySem.PyData.keyHash w.params ⟨#[108, 105, 110, 101, 115, 95, 111, 102]⟩, (.str ⟨#[108, 105, 110, 101, 115, 95, 111, 102]⟩ 1390), (.ref 777)⟩, ⟨PySem.PyData.keyHash w.params ⟨#[112, 114, 111, 103, 114, 97, 109, 95, 116, 101, 120, 116]⟩, (.str ⟨#[112, 114, 111, 103, 114, 97, 109, 95, 116, 101, 120, 116]⟩ 1399), (.ref 784)⟩, ⟨PySem.PyData.keyHash w.params ⟨#[80, 114, 111, 103, 114, 97, 109]⟩, (.str ⟨#[80, 114, 111, 103, 114, 97, 109]⟩ 1493), (.ref 848)⟩, ⟨PySem.PyData.keyHash w.params ⟨#[99, 104, 97, 105, 110, 101, 100]⟩, (.str ⟨#[99, 104, 97, 105, 110, 101, 100]⟩ 1499), (.ref 857)⟩, ⟨PySem.PyData.keyHash w.params ⟨#[105, 115, 95, 119, 104, 111, 108, 101]⟩, (.str ⟨#[105, 115, 95, 119, 104, 111, 108, 101]⟩ 1508), (.ref 864)⟩, ⟨PySem.PyData.keyHash w.params ⟨#[119, 104, 111, 108, 101, 95, 108, 105, 115, 116]⟩, (.str ⟨#[119, 104, 111, 108, 101, 95, 108, 105, 115, 116]⟩ 1514), (.ref 869)⟩, ⟨PySem.PyData.keyHash w.params ⟨#[116, 114, 105, 109, 109, 101, 100]⟩, (.str ⟨#[116, 114, 105, 109, 109, 101, 100]⟩ 1522), (.ref 876)⟩, ⟨PySem.PyData.keyHash w.params ⟨#[119, 104, 111, 108, 101, 95, 114, 111, 119]⟩, (.str ⟨#[119, 104, 111, 108, 101, 95, 114, 111, 119]⟩ 1529), (.ref 883)⟩, ⟨PySem.PyData.keyHash w.params ⟨#[114, 111, 119, 95, 118, 97, 108, 117, 101]⟩, (.str ⟨#[114, 111, 119, 95, 118, 97, 108, 117, 101]⟩ 1541), (.ref 890)⟩, ⟨PySem.PyData.keyHash w.params ⟨#[100, 105, 102, 102, 101, 114, 101, 110, 99, 101, 115]⟩, (.str ⟨#[100, 105, 102, 102, 101, 114, 101, 110, 99, 101, 115]⟩ 1547), (.ref 895)⟩, ⟨PySem.PyData.keyHash w.params ⟨#[114, 111, 119, 95, 109, 111, 118, 101, 100]⟩, (.str ⟨#[114, 111, 119, 95, 109, 111, 118, 101, 100]⟩ 1553), (.ref 900)⟩, ⟨PySem.PyData.keyHash w.params ⟨#[110, 101, 103, 97, 116, 101, 100]⟩, (.str ⟨#[110, 101, 103, 97, 116, 101, 100]⟩ 1559), (.ref 905)⟩, ⟨PySem.PyData.keyHash w.params ⟨#[97, 100, 100, 95, 114, 111, 119, 115]⟩, (.str ⟨#[97, 100, 100, 95, 114, 111, 119, 115]⟩ 1565), (.ref 910)⟩, ⟨PySem.PyData.keyHash w.params ⟨#[116, 97, 107, 101, 95, 114, 111, 119, 115]⟩, (.str ⟨#[116, 97, 107, 101, 95, 114, 111, 119, 115]⟩ 1573), (.ref 917)⟩, ⟨PySem.PyData.keyHash w.params ⟨#[109, 117, 108, 116, 105, 112, 108, 121, 95, 114, 111, 119, 115]⟩, (.str ⟨#[109, 117, 108, 116, 105, 112, 108, 121, 95, 114, 111, 119, 115]⟩ 1579), (.ref 922)⟩, ⟨PySem.PyData.keyHash w.params ⟨#[102, 97, 108, 108, 105, 110, 103, 95, 114, 111, 119]⟩, (.str ⟨#[102, 97, 108, 108, 105, 110, 103, 95, 114, 111, 119]⟩ 1589), (.ref 929)⟩, ⟨PySem.PyData.keyHash w.params ⟨#[115, 105, 103, 110, 95, 111, 102]⟩, (.str ⟨#[115, 105, 103, 110, 95, 111, 102]⟩ 1596), (.ref 936)⟩, ⟨PySem.PyData.keyHash w.params ⟨#[102, 105, 114, 115, 116, 95, 102, 114, 111, 109]⟩, (.str ⟨#[102, 105, 114, 115, 116, 95, 102, 114, 111, 109]⟩ 1608), (.ref 943)⟩, ⟨PySem.PyData.keyHash w.params ⟨#[99, 117, 116, 95, 98, 121, 95, 115, 105, 103, 110]⟩, (.str ⟨#[99, 117, 116, 95, 98, 121, 95, 115, 105, 103, 110]⟩ 1614), (.ref 948)⟩, ⟨PySem.PyData.keyHash w.params ⟨#[106, 111, 105, 110, 101, 100, 95, 115, 105, 103, 110, 115]⟩, (.str ⟨#[106, 111, 105, 110, 101, 100, 95, 115, 105, 103, 110, 115]⟩ 1625), (.ref 955)⟩, ⟨PySem.PyData.keyHash w.params ⟨#[115, 105, 103, 110, 115, 95, 111, 102]⟩, (.str ⟨#[115, 105, 103, 110, 115, 95, 111, 102]⟩ 1631), (.ref 960)⟩, ⟨PySem.PyData.keyHash w.params ⟨#[108, 101, 97, 115, 116, 95, 115, 105, 103, 110]⟩, (.str ⟨#[108, 101, 97, 115, 116, 95, 115, 105, 103, 110]⟩ 1637), (.ref 965)⟩, ⟨PySem.PyData.keyHash w.params ⟨#[114, 111, 119, 95, 111, 102]⟩, (.str ⟨#[114, 111, 119, 95, 111, 102]⟩ 1644), (.ref 972)⟩, ⟨PySem.PyData.keyHash w.params ⟨#[83, 105, 122, 101]⟩, (.str ⟨#[83, 105, 122, 101]⟩ 1887), (.ref 1152)⟩, ⟨PySem.PyData.keyHash w.params ⟨#[85, 78, 73, 79, 78]⟩, (.str ⟨#[85, 78, 73, 79, 78]⟩ 1890), (.ref 1157)⟩, ⟨PySem.PyData.keyHash w.params ⟨#[77, 69, 69, 84]⟩, (.str ⟨#[77, 69, 69, 84]⟩ 1891), (.ref 1158)⟩, ⟨PySem.PyData.keyHash w.params ⟨#[87, 73, 84, 72, 79, 85, 84]⟩, (.str ⟨#[87, 73, 84, 72, 79, 85, 84]⟩ 1892), (.ref 1159)⟩, ⟨PySem.PyData.keyHash w.params ⟨#[69, 73, 84, 72, 69, 82]⟩, (.str ⟨#[69, 73, 84, 72, 69, 82]⟩ 1893), (.ref 1160)⟩, ⟨PySem.PyData.keyHash w.params ⟨#[69, 86, 69, 82, 89]⟩, (.str ⟨#[69, 86, 69, 82, 89]⟩ 1895), (.ref 1162)⟩, ⟨PySem.PyData.keyHash w.params ⟨#[105, 115, 95, 115, 116, 114, 101, 116, 99, 104]⟩, (.str ⟨#[105, 115, 95, 115, 116, 114, 101, 116, 99, 104]⟩ 1904), (.ref 1169)⟩, ⟨PySem.PyData.keyHash w.params ⟨#[116, 117, 114, 110, 105, 110, 103, 95, 112, 111, 105, 110, 116, 115]⟩, (.str ⟨#[116, 117, 114, 110, 105, 110, 103, 95, 112, 111, 105, 110, 116, 115]⟩ 1910), (.ref 1174)⟩, ⟨PySem.PyData.keyHash w.params ⟨#[112, 97, 105, 114, 101, 100]⟩, (.str ⟨#[112, 97, 105, 114, 101, 100]⟩ 1916), (.ref 1179)⟩, ⟨PySem.PyData.keyHash w.params ⟨#[99, 111, 109, 98, 105, 110, 101, 100]⟩, (.str ⟨#[99, 111, 109, 98, 105, 110, 101, 100]⟩ 1931), (.ref 1186)⟩, ⟨PySem.PyData.keyHash w.params ⟨#[115, 112, 97, 110, 95, 109, 111, 118, 101, 100]⟩, (.str ⟨#[115, 112, 97, 110, 95, 109, 111, 118, 101, 100]⟩ 1937), (.ref 1191)⟩, ⟨PySem.PyData.keyHash w.params ⟨#[108, 105, 101, 115, 95, 105, 110]⟩, (.str ⟨#[108, 105, 101, 115, 95, 105, 110]⟩ 1943), (.ref 1196)⟩, ⟨PySem.PyData.keyHash w.params ⟨#[115, 116, 114, 101, 116, 99, 104, 95, 116, 101, 120, 116]⟩, (.str ⟨#[115, 116, 114, 101, 116, 99, 104, 95, 116, 101, 120, 116]⟩ 1951), (.ref 1203)⟩, ⟨PySem.PyData.keyHash w.params ⟨#[83, 112, 97, 110]⟩, (.str ⟨#[83, 112, 97, 110]⟩ 2210), (.ref 1402)⟩, ⟨PySem.PyData.keyHash w.params ⟨#[72, 79, 76, 68, 83]⟩, (.str ⟨#[72, 79, 76, 68, 83]⟩ 2237), (.ref 1407)⟩, ⟨PySem.PyData.keyHash w.params ⟨#[105, 115, 95, 112, 105, 101, 99, 101]⟩, (.str ⟨#[105, 115, 95, 112, 105, 101, 99, 101]⟩ 2247), (.ref 1420)⟩, ⟨PySem.PyData.keyHash w.params ⟨#[112, 105, 101, 99, 101, 115, 95, 111, 102]⟩, (.str ⟨#[112, 105, 101, 99, 101, 115, 95, 111, 102]⟩ 2253), (.ref 1425)⟩, ⟨PySem.PyData.keyHash w.params ⟨#[112, 105, 101, 99, 101, 95, 97, 116]⟩, (.str ⟨#[112, 105, 101, 99, 101, 95, 97, 116]⟩ 2264), (.ref 1432)⟩, ⟨PySem.PyData.keyHash w.params ⟨#[108, 105, 110, 101, 100]⟩, (.str ⟨#[108, 105, 110, 101, 100]⟩ 2270), (.ref 1437)⟩, ⟨PySem.PyData.keyHash w.params ⟨#[97, 112, 97, 114, 116, 95, 115, 105, 103, 110, 115]⟩, (.str ⟨#[97, 112, 97, 114, 116, 95, 115, 105, 103, 110, 115]⟩ 2283), (.ref 1444)⟩, ⟨PySem.PyData.keyHash w.params ⟨#[108, 101, 97, 115, 116, 95, 97, 112, 97, 114, 116]⟩, (.str ⟨#[108, 101, 97, 115, 116, 95, 97, 112, 97, 114, 116]⟩ 2289), (.ref 1449)⟩, ⟨PySem.PyData.keyHash w.params ⟨#[97, 100, 100, 101, 100]⟩, (.str ⟨#[97, 100, 100, 101, 100]⟩ 2295), (.ref 1454)⟩, ⟨PySem.PyData.keyHash w.params ⟨#[109, 117, 108, 116, 105, 112, 108, 105, 101, 100]⟩, (.str ⟨#[109, 117, 108, 116, 105, 112, 108, 105, 101, 100]⟩ 2301), (.ref 1459)⟩, ⟨PySem.PyData.keyHash w.params ⟨#[111, 112, 112, 111, 115, 105, 116, 101]⟩, (.str ⟨#[111, 112, 112, 111, 115, 105, 116, 101]⟩ 2307), (.ref 1464)⟩, ⟨PySem.PyData.keyHash w.params ⟨#[84, 97, 108, 108, 121]⟩, (.str ⟨#[84, 97, 108, 108, 121]⟩ 2516), (.ref 1616)⟩, ⟨PySem.PyData.keyHash w.params ⟨#[102, 105, 98, 114, 101]⟩, (.str ⟨#[102, 105, 98, 114, 101]⟩ 2533), (.ref 1627)⟩, ⟨PySem.PyData.keyHash w.params ⟨#[111, 114, 98, 105, 116, 95, 114, 111, 119]⟩, (.str ⟨#[111, 114, 98, 105, 116, 95, 114, 111, 119]⟩ 2539), (.ref 1632)⟩, ⟨PySem.PyData.keyHash w.params ⟨#[99, 111, 117, 110, 116, 95, 114, 111, 119]⟩, (.str ⟨#[99, 111, 117, 110, 116, 95, 114, 111, 119]⟩ 2551), (.ref 1639)⟩, ⟨PySem.PyData.keyHash w.params ⟨#[99, 111, 109, 112, 97, 114, 101, 95, 114, 111, 119, 115]⟩, (.str ⟨#[99, 111, 109, 112, 97, 114, 101, 95, 114, 111, 119, 115]⟩ 2567), (.ref 1646)⟩, ⟨PySem.PyData.keyHash w.params ⟨#[119, 114, 105, 116, 116, 101, 110]⟩, (.str ⟨#[119, 114, 105, 116, 116, 101, 110]⟩ 2575), (.ref 1651)⟩, ⟨PySem.PyData.keyHash w.params ⟨#[99, 111, 108, 108, 101, 99, 116, 101, 100]⟩, (.str ⟨#[99, 111, 108, 108, 101, 99, 116, 101, 100]⟩ 2584), (.ref 1658)⟩, ⟨PySem.PyData.keyHash w.params ⟨#[110, 117, 109, 98, 101, 114]⟩, (.str ⟨#[110, 117, 109, 98, 101, 114]⟩ 2593), (.ref 1665)⟩, ⟨PySem.PyData.keyHash w.params ⟨#[99, 111, 117, 110, 116, 95, 97, 116]⟩, (.str ⟨#[99, 111, 117, 110, 116, 95, 97, 116]⟩ 2601), (.ref 1672)⟩, ⟨PySem.PyData.keyHash w.params ⟨#[116, 114, 101, 101, 95, 115, 105, 122, 101]⟩, (.str ⟨#[116, 114, 101, 101, 95, 115, 105, 122, 101]⟩ 2607), (.ref 1677)⟩, ⟨PySem.PyData.keyHash w.params ⟨#[97, 114, 114, 97, 110, 103, 101, 109, 101, 110, 116, 115]⟩, (.str ⟨#[97, 114, 114, 97, 110, 103, 101, 109, 101, 110, 116, 115]⟩ 2613), (.ref 1682)⟩, ⟨PySem.PyData.keyHash w.params ⟨#[115, 104, 111, 119, 110]⟩, (.str ⟨#[115, 104, 111, 119, 110]⟩ 2619), (.ref 1687)⟩, ⟨PySem.PyData.keyHash w.params ⟨#[115, 104, 111, 119, 110, 95, 119, 105, 116, 104, 105, 110]⟩, (.str ⟨#[115, 104, 111, 119, 110, 95, 119, 105, 116, 104, 105, 110]⟩ 2629), (.ref 1694)⟩, ⟨PySem.PyData.keyHash w.params ⟨#[116, 97, 107, 101, 110]⟩, (.str ⟨#[116, 97, 107, 101, 110]⟩ 2635), (.ref 1699)⟩, ⟨PySem.PyData.keyHash w.params ⟨#[104, 97, 110, 100, 95, 111, 102]⟩, (.str ⟨#[104, 97, 110, 100, 95, 111, 102]⟩ 2643), (.ref 1704)⟩, ⟨PySem.PyData.keyHash w.params ⟨#[118, 97, 108, 117, 101, 95, 111, 102]⟩, (.str ⟨#[118, 97, 108, 117, 101, 95, 111, 102]⟩ 2649), (.ref 1709)⟩, ⟨PySem.PyData.keyHash w.params ⟨#[109, 105, 120, 101, 100]⟩, (.str ⟨#[109, 105, 120, 101, 100]⟩ 2655), (.ref 1714)⟩, ⟨PySem.PyData.keyHash w.params ⟨#[109, 101, 109, 98, 101, 114, 115, 95, 104, 97, 110, 100]⟩, (.str ⟨#[109, 101, 109, 98, 101, 114, 115, 95, 104, 97, 110, 100]⟩ 2662), (.ref 1721)⟩, ⟨PySem.PyData.keyHash w.params ⟨#[106, 111, 105, 110, 95, 111, 102]⟩, (.str ⟨#[106, 111, 105, 110, 95, 111, 102]⟩ 2668), (.ref 1726)⟩, ⟨PySem.PyData.keyHash w.params ⟨#[98, 111, 117, 110, 100, 95, 98, 121]⟩, (.str ⟨#[98, 111, 117, 110, 100, 95, 98, 121]⟩ 2679), (.ref 1733)⟩, ⟨PySem.PyData.keyHash w.params ⟨#[99, 104, 111, 105, 99, 101, 115]⟩, (.str ⟨#[99, 104, 111, 105, 99, 101, 115]⟩ 2685), (.ref 1738)⟩, ⟨PySem.PyData.keyHash w.params ⟨#[103, 97, 116, 104, 101, 114, 101, 100]⟩, (.str ⟨#[103, 97, 116, 104, 101, 114, 101, 100]⟩ 2691), (.ref 1743)⟩, ⟨PySem.PyData.keyHash w.params ⟨#[104, 111, 108, 100, 115]⟩, (.str ⟨#[104, 111, 108, 100, 115]⟩ 2704), (.ref 1750)⟩, ⟨PySem.PyData.keyHash w.params ⟨#[113, 117, 97, 110, 116, 105, 102, 105, 101, 100]⟩, (.str ⟨#[113, 117, 97, 110, 116, 105, 102, 105, 101, 100]⟩ 2716), (.ref 1757)⟩, ⟨PySem.PyData.keyHash w.params ⟨#[110, 117, 109, 98, 101, 114, 95, 111, 102]⟩, (.str ⟨#[110, 117, 109, 98, 101, 114, 95, 111, 102]⟩ 2728), (.ref 1764)⟩, ⟨PySem.PyData.keyHash w.params ⟨#[111, 114, 100, 101, 114, 115, 95, 111, 102]⟩, (.str ⟨#[111, 114, 100, 101, 114, 115, 95, 111, 102]⟩ 2745), (.ref 1771)⟩, ⟨PySem.PyData.keyHash w.params ⟨#[101, 113, 117, 97, 108, 95, 115, 116, 97, 116, 101, 115]⟩, (.str ⟨#[101, 113, 117, 97, 108, 95, 115, 116, 97, 116, 101, 115]⟩ 2756), (.ref 1778)⟩, ⟨PySem.PyData.keyHash w.params ⟨#[101, 97, 114, 108, 105, 101, 114]⟩, (.str ⟨#[101, 97, 114, 108, 105, 101, 114]⟩ 2770), (.ref 1785)⟩, ⟨PySem.PyData.keyHash w.params ⟨#[109, 111, 118, 101, 100]⟩, (.str ⟨#[109, 111, 118, 101, 100]⟩ 2785), (.ref 1792)⟩, ⟨PySem.PyData.keyHash w.params ⟨#[114, 117, 110, 95, 111, 118, 101, 114]⟩, (.str ⟨#[114, 117, 110, 95, 111, 118, 101, 114]⟩ 2805), (.ref 1799)⟩, ⟨PySem.PyData.keyHash w.params ⟨#[115, 116, 97, 114, 116]⟩, (.str ⟨#[115, 116, 97, 114, 116]⟩ 2814), (.ref 1806)⟩, ⟨PySem.PyData.keyHash w.params ⟨#[104, 97, 108, 118, 101, 115]⟩, (.str ⟨#[104, 97, 108, 118, 101, 115]⟩ 2823), (.ref 1813)⟩, ⟨PySem.PyData.keyHash w.params ⟨#[101, 120, 101, 99, 117, 116, 101, 100]⟩, (.str ⟨#[101, 120, 101, 99, 117, 116, 101, 100]⟩ 2838), (.ref 1820)⟩, ⟨PySem.PyData.keyHash w.params ⟨#[101, 120, 101, 99, 117, 116, 101]⟩, (.str ⟨#[101, 120, 101, 99, 117, 116, 101]⟩ 2844), (.ref 1825)⟩, ⟨PySem.PyData.keyHash w.params ⟨#[116, 114, 117, 116, 104, 95, 114, 111, 119, 115]⟩, (.str ⟨#[116, 114, 117, 116, 104, 95, 114, 111, 119, 115]⟩ 2859), (.ref 1832)⟩, ⟨PySem.PyData.keyHash w.params ⟨#[116, 114, 117, 116, 104, 115]⟩, (.str ⟨#[116, 114, 117, 116, 104, 115]⟩ 2865), (.ref 1837)⟩] 176), #[]⟩, boot_o_4 w.params, boot_o_5 w.params, boot_o_6 w.params, boot_o_7 w.params, boot_o_8 w.params, boot_o_9 w.params, boot_o_10 w.params, ⟨(.type "tuple"), none, (.seq #[] 0), #[]⟩, ⟨.none, none, (.fields #[(.int 1 0), (.int 0 0), (.ref 20), (.int 5 0), (.int 0 0), (.ref 27), (.int 7 0), (.int 0 0), (.ref 41), (.int 12 0), (.int 0 0), (.ref 62), (.int 17 0), (.int 0 0), (.ref 83), (.int 22 0), (.int 0 0), (.ref 104), (.int 28 0), (.int 0 0), (.ref 125), (.int 33 0), (.int 0 0), (.ref 146), (.int 38 0), (.int 0 0), (.ref 167), (.int 43 0), (.int 0 0), (.ref 187), (.int 45 0), (.int 0 0), (.ref 200), (.int 50 0), (.int 0 0), (.ref 221), (.int 56 0), (.int 0 0), (.ref 242), (.int 63 0), (.int 0 0), (.ref 263), (.int 69 0), (.int 0 0), (.ref 284), (.int 75 0), (.int 0 0), (.ref 304), (.int 87 0), (.int 0 0), (.ref 309), (.int 89 0), (.int 0 0), (.ref 316), (.int 91 0), (.int 0 0), (.ref 323), (.int 93 0), (.int 0 0), (.ref 328), (.int 107 0), (.int 0 0), (.ref 335), (.int 109 0), (.int 0 0), (.ref 340), (.int 114 0), (.int 0 0), (.ref 345), (.int 117 0), (.int 0 0), (.ref 350), (.int 124 0), (.int 0 0), (.ref 357), (.int 130 0), (.int 0 0), (.ref 364), (.int 132 0), (.int 0 0), (.ref 369), (.int 136 0), (.int 0 0), (.ref 374), (.int 141 0), (.int 0 0), (.ref 381), (.int 155 0), (.int 0 0), (.ref 386), (.int 157 0), (.int 0 0), (.ref 391), (.int 159 0), (.int 0 0), (.ref 396), (.int 161 0), (.int 0 0), (.ref 403), (.int 175 0), (.int 0 0), (.ref 408), (.int 187 0), (.int 0 0), (.ref 413), (.int 198 0), (.int 0 0), (.ref 420), (.int 204 0), (.int 0 0), (.ref 425), (.int 208 0), (.int 0 0), (.ref 430), (.int 223 0), (.int 0 0), (.ref 435), (.int 235 0), (.int 0 0), (.ref 443), (.int 244 0), (.int 0 0), (.ref 468), (.int 248 0), (.int 0 0), (.ref 475), (.int 250 0), (.int 0 0), (.ref 482), (.int 254 0), (.int 0 0), (.ref 487), (.int 263 0), (.int 0 0), (.ref 493), (.int 279 0), (.int 0 0), (.ref 498), (.int 292 0), (.int 0 0), (.ref 505), (.int 302 0), (.int 0 0), (.ref 512), (.int 312 0), (.int 0 0), (.ref 519), (.int 326 0), (.int 0 0), (.ref 528), (.int 337 0), (.int 0 0), (.ref 537), (.int 353 0), (.int 0 0), (.ref 542), (.int 355 0), (.int 0 0), (.ref 549), (.int 372 0), (.int 0 0), (.ref 561), (.int 377 0), (.int 0 0), (.ref 582), (.int 527 0), (.int 0 0), (.ref 687), (.int 542 0), (.int 0 0), (.ref 698), (.int 551 0), (.int 0 0), (.ref 703), (.int 560 0), (.int 0 0), (.ref 710), (.int 562 0), (.int 0 0), (.ref 717), (.int 568 0), (.int 0 0), (.ref 724), (.int 581 0), (.int 0 0), (.ref 731), (.int 587 0), (.int 0 0), (.ref 738), (.int 600 0), (.int 0 0), (.ref 745), (.int 617 0), (.int 0 0), (.ref 754), (.int 621 0), (.int 0 0), (.ref 759), (.int 646 0), (.int 0 0), (.ref 764), (.int 650 0), (.int 0 0), (.ref 769), (.int 652 0), (.int 0 0), (.ref 776), (.int 661 0), (.int 0 0), (.ref 783), (.int 665 0), (.int 0 0), (.ref 790), (.int 701 0), (.int 0 0), (.ref 856), (.int 705 0), (.int 0 0), (.ref 863), (.int 707 0), (.int 0 0), (.ref 868), (.int 709 0), (.int 0 0), (.ref 875), (.int 714 0), (.int 0 0), (.ref 882), (.int 716 0), (.int 0 0), (.ref 889), (.int 723 0), (.int 0 0), (.ref 894), (.int 730 0), (.int 0 0), (.ref 899), (.int 732 0), (.int 0 0), (.ref 904), (.int 734 0), (.int 0 0), (.ref 909), (.int 739 0), (.int 0 0), (.ref 916), (.int 741 0), (.int 0 0), (.ref 921), (.int 745 0), (.int 0 0), (.ref 928), (.int 750 0), (.int 0 0), (.ref 935), (.int 752 0), (.int 0 0), (.ref 942), (.int 765 0), (.int 0 0), (.ref 947), (.int 774 0), (.int 0 0), (.ref 954), (.int 782 0), (.int 0 0), (.ref 959), (.int 788 0), (.int 0 0), (.ref 964), (.int 790 0), (.int 0 0), (.ref 971), (.int 796 0), (.int 0 0), (.ref 978), (.int 922 0), (.int 0 0), (.ref 1168), (.int 929 0), (.int 0 0), (.ref 1173), (.int 931 0), (.int 0 0), (.ref 1178), (.int 934 0), (.int 0 0), (.ref 1185), (.int 952 0), (.int 0 0), (.ref 1190), (.int 955 0), (.int 0 0), (.ref 1195), (.int 957 0), (.int 0 0), (.ref 1202), (.int 961 0), (.int 0 0), (.ref 1209), (.int 1094 0), (.int 0 0), (.ref 1419), (.int 1101 0), (.int 0 0), (.ref 1424), (.int 1106 0), (.int 0 0), (.ref 1431), (.int 1112 0), (.int 0 0), (.ref 1436), (.int 1116 0), (.int 0 0), (.ref 1443), (.int 1121 0), (.int 0 0), (.ref 1448), (.int 1123 0), (.int 0 0), (.ref 1453), (.int 1125 0), (.int 0 0), (.ref 1458), (.int 1127 0), (.int 0 0), (.ref 1463), (.int 1129 0), (.int 0 0), (.ref 1470), (.int 1239 0), (.int 0 0), (.ref 1626), (.int 1247 0), (.int 0 0), (.ref 1631), (.int 1257 0), (.int 0 0), (.ref 1638), (.int 1264 0), (.int 0 0), (.ref 1645), (.int 1272 0), (.int 0 0), (.ref 1650), (.int 1294 0), (.int 0 0), (.ref 1657), (.int 1302 0), (.int 0 0), (.ref 1664), (.int 1304 0), (.int 0 0), (.ref 1671), (.int 1306 0), (.int 0 0), (.ref 1676), (.int 1313 0), (.int 0 0), (.ref 1681), (.int 1318 0), (.int 0 0), (.ref 1686), (.int 1330 0), (.int 0 0), (.ref 1693), (.int 1335 0), (.int 0 0), (.ref 1698), (.int 1344 0), (.int 0 0), (.ref 1703), (.int 1347 0), (.int 0 0), (.ref 1708), (.int 1365 0), (.int 0 0), (.ref 1713), (.int 1377 0), (.int 0 0), (.ref 1720), (.int 1379 0), (.int 0 0), (.ref 1725), (.int 1383 0), (.int 0 0), (.ref 1732), (.int 1391 0), (.int 0 0), (.ref 1737), (.int 1394 0), (.int 0 0), (.ref 1742), (.int 1401 0), (.int 0 0), (.ref 1749), (.int 1422 0), (.int 0 0), (.ref 1756), (.int 1427 0), (.int 0 0), (.ref 1763), (.int 1439 0), (.int 0 0), (.ref 1770), (.int 1454 0), (.int 0 0), (.ref 1777), (.int 1459 0), (.int 0 0), (.ref 1784), (.int 1464 0), (.int 0 0), (.ref 1791), (.int 1472 0), (.int 0 0), (.ref 1798), (.int 1496 0), (.int 0 0), (.ref 1805), (.int 1498 0), (.int 0 0), (.ref 1812), (.int 1500 0), (.int 0 0), (.ref 1819), (.int 1510 0), (.int 0 0), (.ref 1824), (.int 1512 0), (.int 0 0), (.ref 1831), (.int 1523 0), (.int 0 0), (.ref 1836)]), #[]⟩, ⟨(.type "code"), none, (.fields #[(.str ⟨#[60, 109, 111, 100, 117, 108, 101, 62]⟩ 182), (.str ⟨#[60, 109, 111, 100, 117, 108, 101, 62]⟩ 183), (.str ⟨#[47, 99, 108, 97, 105, 109, 47, 99, 117, 116, 46, 112, 121]⟩ 184), (.int 1 0), (.int 0 0), (.int 0 0), (.int 0 0), (.int 0 0), (.ref 11), (.bool false), (.int 181 0), (.ref 12), .none, .none, .none, .none, (.int 185 0), (.int 1 0), (.str ⟨#[47, 99, 108, 97, 105, 109, 47, 99, 117, 116, 46, 112, 121]⟩ 186)]), #[]⟩, ⟨(.type "frame"), none, .plain, #[(some (.ref 13)), (some (.ref 3)), (some (.ref 3)), none, (some (.str ⟨#[95, 95, 109, 97, 105, 110, 95, 95]⟩ 164)), none, (some (.ref 0))]⟩]
def O12 : List Nat := [29, 30, 31, 32, 38, 49, 50, 51, 52, 53, 197, 208, 209, 210, 211, 212, 281, 292, 293, 294, 295, 296, 437, 438, 439, 443, 444, 445, 468, 469, 475, 476, 521, 522, 528, 529, 542, 543, 549, 550, 769, 770, 783, 784, 792, 793, 794, 798, 799, 805, 806, 808, 815, 816, 817, 823, 824, 830, 831, 837, 838, 844, 845, 846, 847, 848, 849, 850, 875, 876, 882, 883, 889, 890]
def A12 : List Nat := [1638, 1639, 1664, 1665, 1671, 1672, 1676, 1677, 1686, 1687, 1693, 1694, 1708, 1709, 1805, 1806]
def G12 (p : Program) (w : World) : List Obj := [⟨(.type "code"), none, (.fields #[(.str ⟨#[99, 111, 117, 110, 116, 95, 114, 111, 119]⟩ 2540), (.str ⟨#[99, 111, 117, 110, 116, 95, 114, 111, 119]⟩ 2541), (.str ⟨#[47, 99, 108, 97, 105, 109, 47, 99, 117, 116, 46, 112, 121]⟩ 2542), (.int 1257 0), (.int 3 0), (.int 0 0), (.int 0 0), (.int 3 0), (.ref 1633), (.bool true), (.int 181 0), (.ref 1634), .none, (.ref 1635), (.ref 1636), (.ref 1637), (.int 2549 0), (.int 1257 0), (.str ⟨#[47, 99, 108, 97, 105, 109, 47, 99, 117, 116, 46, 112, 121]⟩ 2550)]), #[]⟩,
  ⟨(.type "function"), none, (.func (fnX ⟨#[99, 111, 117, 110, 116, 95, 114, 111, 119]⟩ ⟨#[99, 111, 117, 110, 116, 95, 114, 111, 119]⟩ (stA p 145) [] .none .none .none (.str ⟨#[101, 118, 101, 114, 121, 110, 97, 109, 101, 46, 99, 111, 117, 110, 116, 115]⟩ 2517) none (.ref 1638) .none)), #[]⟩,
  ⟨(.type "code"), none, (.fields #[(.str ⟨#[110, 117, 109, 98, 101, 114]⟩ 2587), (.str ⟨#[110, 117, 109, 98, 101, 114]⟩ 2588), (.str ⟨#[47, 99, 108, 97, 105, 109, 47, 99, 117, 116, 46, 112, 121]⟩ 2589), (.int 1302 0), (.int 1 0), (.int 0 0), (.int 0 0), (.int 3 0), (.ref 1659), (.bool true), (.int 181 0), (.ref 1660), .none, (.ref 1661), (.ref 1662), (.ref 1663), (.int 2591 0), (.int 1302 0), (.str ⟨#[47, 99, 108, 97, 105, 109, 47, 99, 117, 116, 46, 112, 121]⟩ 2592)]), #[]⟩,
  ⟨(.type "function"), none, (.func (fnX ⟨#[110, 117, 109, 98, 101, 114]⟩ ⟨#[110, 117, 109, 98, 101, 114]⟩ (stA p 151) [] .none .none .none (.str ⟨#[101, 118, 101, 114, 121, 110, 97, 109, 101, 46, 115, 104, 111, 119, 105, 110, 103]⟩ 2585) none (.ref 1664) .none)), #[]⟩,
  ⟨(.type "code"), none, (.fields #[(.str ⟨#[99, 111, 117, 110, 116, 95, 97, 116]⟩ 2594), (.str ⟨#[99, 111, 117, 110, 116, 95, 97, 116]⟩ 2595), (.str ⟨#[47, 99, 108, 97, 105, 109, 47, 99, 117, 116, 46, 112, 121]⟩ 2596), (.int 1304 0), (.int 2 0), (.int 0 0), (.int 0 0), (.int 3 0), (.ref 1666), (.bool true), (.int 181 0), (.ref 1667), .none, (.ref 1668), (.ref 1669), (.ref 1670), (.int 2599 0), (.int 1304 0), (.str ⟨#[47, 99, 108, 97, 105, 109, 47, 99, 117, 116, 46, 112, 121]⟩ 2600)]), #[]⟩,
  ⟨(.type "function"), none, (.func (fnX ⟨#[99, 111, 117, 110, 116, 95, 97, 116]⟩ ⟨#[99, 111, 117, 110, 116, 95, 97, 116]⟩ (stA p 152) [] .none .none .none (.str ⟨#[101, 118, 101, 114, 121, 110, 97, 109, 101, 46, 115, 104, 111, 119, 105, 110, 103]⟩ 2585) none (.ref 1671) .none)), #[]⟩,
  ⟨(.type "code"), none, (.fields #[(.str ⟨#[116, 114, 101, 101, 95, 115, 105, 122, 101]⟩ 2602), (.str ⟨#[116, 114, 101, 101, 95, 115, 105, 122, 101]⟩ 2603), (.str ⟨#[47, 99, 108, 97, 105, 109, 47, 99, 117, 116, 46, 112, 121]⟩ 2604), (.int 1306 0), (.int 2 0), (.int 0 0), (.int 0 0), (.int 3 0), (.ref 1673), (.bool true), (.int 181 0), (.ref 1674), .none, .none, .none, (.ref 1675), (.int 2605 0), (.int 1306 0), (.str ⟨#[47, 99, 108, 97, 105, 109, 47, 99, 117, 116, 46, 112, 121]⟩ 2606)]), #[]⟩,
  ⟨(.type "function"), none, (.func (fnX ⟨#[116, 114, 101, 101, 95, 115, 105, 122, 101]⟩ ⟨#[116, 114, 101, 101, 95, 115, 105, 122, 101]⟩ (stA p 153) [] .none .none .none (.str ⟨#[101, 118, 101, 114, 121, 110, 97, 109, 101, 46, 115, 104, 111, 119, 105, 110, 103]⟩ 2585) none (.ref 1676) .none)), #[]⟩,
  ⟨(.type "code"), none, (.fields #[(.str ⟨#[115, 104, 111, 119, 110]⟩ 2614), (.str ⟨#[115, 104, 111, 119, 110]⟩ 2615), (.str ⟨#[47, 99, 108, 97, 105, 109, 47, 99, 117, 116, 46, 112, 121]⟩ 2616), (.int 1318 0), (.int 2 0), (.int 0 0), (.int 0 0), (.int 3 0), (.ref 1683), (.bool true), (.int 181 0), (.ref 1684), .none, .none, .none, (.ref 1685), (.int 2617 0), (.int 1318 0), (.str ⟨#[47, 99, 108, 97, 105, 109, 47, 99, 117, 116, 46, 112, 121]⟩ 2618)]), #[]⟩,
  ⟨(.type "function"), none, (.func (fnX ⟨#[115, 104, 111, 119, 110]⟩ ⟨#[115, 104, 111, 119, 110]⟩ (stA p 155) [] .none .none .none (.str ⟨#[101, 118, 101, 114, 121, 110, 97, 109, 101, 46, 115, 104, 111, 119, 105, 110, 103]⟩ 2585) none (.ref 1686) .none)), #[]⟩,
  ⟨(.type "code"), none, (.fields #[(.str ⟨#[115, 104, 111, 119, 110, 95, 119, 105, 116, 104, 105, 110]⟩ 2620), (.str ⟨#[115, 104, 111, 119, 110, 95, 119, 105, 116, 104, 105, 110]⟩ 2621), (.str ⟨#[47, 99, 108, 97, 105, 109, 47, 99, 117, 116, 46, 112, 121]⟩ 2622), (.int 1330 0), (.int 3 0), (.int 0 0), (.int 0 0), (.int 3 0), (.ref 1688), (.bool true), (.int 181 0), (.ref 1689), .none, (.ref 1690), (.ref 1691), (.ref 1692), (.int 2627 0), (.int 1330 0), (.str ⟨#[47, 99, 108, 97, 105, 109, 47, 99, 117, 116, 46, 112, 121]⟩ 2628)]), #[]⟩,
  ⟨(.type "function"), none, (.func (fnX ⟨#[115, 104, 111, 119, 110, 95, 119, 105, 116, 104, 105, 110]⟩ ⟨#[115, 104, 111, 119, 110, 95, 119, 105, 116, 104, 105, 110]⟩ (stA p 156) [] .none .none .none (.str ⟨#[101, 118, 101, 114, 121, 110, 97, 109, 101, 46, 115, 104, 111, 119, 105, 110, 103]⟩ 2585) none (.ref 1693) .none)), #[]⟩,
  ⟨(.type "code"), none, (.fields #[(.str ⟨#[118, 97, 108, 117, 101, 95, 111, 102]⟩ 2644), (.str ⟨#[118, 97, 108, 117, 101, 95, 111, 102]⟩ 2645), (.str ⟨#[47, 99, 108, 97, 105, 109, 47, 99, 117, 116, 46, 112, 121]⟩ 2646), (.int 1347 0), (.int 4 0), (.int 0 0), (.int 0 0), (.int 3 0), (.ref 1705), (.bool true), (.int 181 0), (.ref 1706), .none, .none, .none, (.ref 1707), (.int 2647 0), (.int 1347 0), (.str ⟨#[47, 99, 108, 97, 105, 109, 47, 99, 117, 116, 46, 112, 121]⟩ 2648)]), #[]⟩,
  ⟨(.type "function"), none, (.func (fnX ⟨#[118, 97, 108, 117, 101, 95, 111, 102]⟩ ⟨#[118, 97, 108, 117, 101, 95, 111, 102]⟩ (stA p 160) [] .none .none .none (.str ⟨#[101, 118, 101, 114, 121, 110, 97, 109, 101, 46, 106, 117, 100, 103, 105, 110, 103]⟩ 2636) none (.ref 1708) .none)), #[]⟩,
  ⟨(.type "code"), none, (.fields #[(.str ⟨#[115, 116, 97, 114, 116]⟩ 2808), (.str ⟨#[115, 116, 97, 114, 116]⟩ 2809), (.str ⟨#[47, 99, 108, 97, 105, 109, 47, 99, 117, 116, 46, 112, 121]⟩ 2810), (.int 1496 0), (.int 1 0), (.int 0 0), (.int 0 0), (.int 3 0), (.ref 1800), (.bool true), (.int 181 0), (.ref 1801), .none, (.ref 1802), (.ref 1803), (.ref 1804), (.int 2812 0), (.int 1496 0), (.str ⟨#[47, 99, 108, 97, 105, 109, 47, 99, 117, 116, 46, 112, 121]⟩ 2813)]), #[]⟩,
  ⟨(.type "function"), none, (.func (fnX ⟨#[115, 116, 97, 114, 116]⟩ ⟨#[115, 116, 97, 114, 116]⟩ (stA p 177) [] .none .none .none (.str ⟨#[101, 118, 101, 114, 121, 110, 97, 109, 101, 46, 115, 116, 114, 101, 116, 99, 104, 101, 115]⟩ 2806) none (.ref 1805) .none)), #[]⟩]
theorem grp12 (w : World) (os : OsState) (g : Nat → Obj) : grpO (HandSHeadRun.stepQ (HandSHeadRun.denQ HandSHeadRun.tabQ) PySem.W.Fast.tw10313853756172224601 w) 2484 (O12 ++ A12) (boot_heap w.params).life boot_drawn 2238 os (F11 w ++ (List.range 1399).map fun i => g (15 + i)) (piecesOf (((((((((((((((((((((((((PySem.W.Fast.tw10313853756172224601).main.body).drop 16)).drop 33)).drop 1)).drop 14)).drop 3)).drop 17)).drop 2)).drop 29)).drop 14)).drop 2)).drop 1)).take 51) (envA PySem.W.Fast.tw10313853756172224601 13 14) (codeA PySem.W.Fast.tw10313853756172224601 13 14) ⟨1093, 0, 1093, 5⟩ [topFrame ⟨0, 0, 0, 0⟩]) =
    some (.next, (codeA PySem.W.Fast.tw10313853756172224601 13 14), ⟨1523, 0, 1530, 16⟩, 1838, (boot_heap w.params).life, 0, boot_drawn, 2866, os, (F12 w).map some, (O12.map g ++ G12 PySem.W.Fast.tw10313853756172224601 w).map some) := by kernel_rfl
def F13 (w : World) : List Obj := [boot_o_0 w.params, boot_o_1 w.params, ⟨.none, none, (.dict #[⟨PySem.PyData.keyHash w.params ⟨#[116, 121, 112, 101, 46, 95, 95, 115, 117, 98, 99, 108, 97, 115, 115, 101, 115, 95, 95, 46, 69, 120, 99, 101, 112, 116, 105, 111, 110, 46, 48]⟩, (.str ⟨#[116, 121, 112, 101, 46, 95, 95, 115, 117, 98, 99, 108, 97, 115, 115, 101, 115, 95, 95, 46, 69, 120, 99, 101, 112, 116, 105, 111, 110, 46, 48]⟩ 1035), (.int 573 0)⟩, ⟨PySem.PyData.keyHash w.params ⟨#[116, 121, 112, 101, 46, 95, 95, 115, 117, 98, 99, 108, 97, 115, 115, 101, 115, 95, 95, 46, 69, 120, 99, 101, 112, 116, 105, 111, 110, 46, 110]⟩, (.str ⟨#[116, 121, 112, 101, 46, 95, 95, 115, 117, 98, 99, 108, 97, 115, 115, 101, 115, 95, 95, 46, 69, 120, 99, 101, 112, 116, 105, 111, 110, 46, 110]⟩ 1036), (.int 1 0)⟩] 2), #[]⟩, ⟨(.type "dict"), none, (.dict #[⟨PySem.PyData.keyHash w.params ⟨#[95, 95, 110, 97, 109, 101, 95, 95]⟩, (.str ⟨#[95, 95, 110, 97, 109, 101, 95, 95]⟩ 165), (.str ⟨#[101, 118, 101, 114, 121, 110, 97, 109, 101, 46, 103, 117, 97, 114, 100, 115]⟩ 3272)⟩, ⟨PySem.PyData.keyHash w.params ⟨#[95, 95, 100, 111, 99, 95, 95]⟩, (.str ⟨#[95, 95, 100, 111, 99, 95, 95]⟩ 166), .none⟩, ⟨PySem.PyData.keyHash w.params ⟨#[95, 95, 112, 97, 99, 107, 97, 103, 101, 95, 95]⟩, (.str ⟨#[95, 95, 112, 97, 99, 107, 97, 103, 101, 95, 95]⟩ 167), .none⟩, ⟨PySem.PyData.keyHash w.params ⟨#[95, 95, 108, 111, 97, 100, 101, 114, 95, 95]⟩, (.str ⟨#[95, 95, 108, 111, 97, 100, 101, 114, 95, 95]⟩ 168), (.builtin "__main__.__loader__#opaque")⟩, ⟨PySem.PyData.keyHash w.params ⟨#[95, 95, 115, 112, 101, 99, 95, 95]⟩, (.str ⟨#[95, 95, 115, 112, 101, 99, 95, 95]⟩ 169), .none⟩, ⟨PySem.PyData.keyHash w.params ⟨#[95, 95, 97, 110, 110, 111, 116, 97, 116, 105, 111, 110, 115, 95, 95]⟩, (.str ⟨#[95, 95, 97, 110, 110, 111, 116, 97, 116, 105, 111, 110, 115, 95, 95]⟩ 170), (.ref 6)⟩, ⟨PySem.PyData.keyHash w.params ⟨#[95, 95, 98, 117, 105, 108, 116, 105, 110, 115, 95, 95]⟩, (.str ⟨#[95, 95, 98, 117, 105, 108, 116, 105, 110, 115, 95, 95]⟩ 171), (.ref 4)⟩, ⟨PySem.PyData.keyHash w.params ⟨#[95, 95, 102, 105, 108, 101, 95, 95]⟩, (.str ⟨#[95, 95, 102, 105, 108, 101, 95, 95]⟩ 173), (.str ⟨#[47, 99, 108, 97, 105, 109, 47, 99, 117, 116, 46, 112, 121]⟩ 172)⟩, ⟨PySem.PyData.keyHash w.params ⟨#[95, 95, 99, 97, 99, 104, 101, 100, 95, 95]⟩, (.str ⟨#[95, 95, 99, 97, 99, 104, 101, 100, 95, 95]⟩ 174), .none⟩, ⟨PySem.PyData.keyHash w.params ⟨#[95, 119, 97, 108, 108]⟩, (.str ⟨#[95, 119, 97, 108, 108]⟩ 193), (.ref 21)⟩, ⟨PySem.PyData.keyHash w.params ⟨#[69, 118, 101, 114, 121, 110, 97, 109, 101, 69, 114, 114, 111, 114]⟩, (.str ⟨#[69, 118, 101, 114, 121, 110, 97, 109, 101, 69, 114, 114, 111, 114]⟩ 213), (.ref 31)⟩, ⟨PySem.PyData.keyHash w.params ⟨#[66, 97, 100, 80, 114, 111, 103, 114, 97, 109]⟩, (.str ⟨#[66, 97, 100, 80, 114, 111, 103, 114, 97, 109]⟩ 240), (.ref 53)⟩, ⟨PySem.PyData.keyHash w.params ⟨#[66, 97, 100, 84, 101, 120, 116]⟩, (.str ⟨#[66, 97, 100, 84, 101, 120, 116]⟩ 267), (.ref 74)⟩, ⟨PySem.PyData.keyHash w.params ⟨#[66, 97, 100, 86, 97, 108, 117, 101]⟩, (.str ⟨#[66, 97, 100, 86, 97, 108, 117, 101]⟩ 294), (.ref 95)⟩, ⟨PySem.PyData.keyHash w.params ⟨#[79, 116, 104, 101, 114, 83, 116, 111, 99, 107]⟩, (.str ⟨#[79, 116, 104, 101, 114, 83, 116, 111, 99, 107]⟩ 323), (.ref 116)⟩, ⟨PySem.PyData.keyHash w.params ⟨#[84, 111, 111, 77, 97, 110, 121]⟩, (.str ⟨#[84, 111, 111, 77, 97, 110, 121]⟩ 350), (.ref 137)⟩, ⟨PySem.PyData.keyHash w.params ⟨#[78, 111, 86, 97, 114, 105, 97, 98, 108, 101]⟩, (.str ⟨#[78, 111, 86, 97, 114, 105, 97, 98, 108, 101]⟩ 377), (.ref 158)⟩, ⟨PySem.PyData.keyHash w.params ⟨#[78, 111, 116, 69, 120, 97, 99, 116]⟩, (.str ⟨#[78, 111, 116, 69, 120, 97, 99, 116]⟩ 404), (.ref 179)⟩, ⟨PySem.PyData.keyHash w.params ⟨#[69, 109, 112, 116, 121, 83, 112, 97, 110]⟩, (.str ⟨#[69, 109, 112, 116, 121, 83, 112, 97, 110]⟩ 420), (.ref 191)⟩, ⟨PySem.PyData.keyHash w.params ⟨#[66, 97, 100, 78, 97, 109, 101]⟩, (.str ⟨#[66, 97, 100, 78, 97, 109, 101]⟩ 447), (.ref 212)⟩, ⟨PySem.PyData.keyHash w.params ⟨#[66, 97, 100, 82, 117, 108, 101]⟩, (.str ⟨#[66, 97, 100, 82, 117, 108, 101]⟩ 476), (.ref 233)⟩, ⟨PySem.PyData.keyHash w.params ⟨#[82, 101, 115, 116, 108, 101, 115, 115]⟩, (.str ⟨#[82, 101, 115, 116, 108, 101, 115, 115]⟩ 507), (.ref 254)⟩, ⟨PySem.PyData.keyHash w.params ⟨#[66, 114, 111, 107, 101, 110]⟩, (.str ⟨#[66, 114, 111, 107, 101, 110]⟩ 536), (.ref 275)⟩, ⟨PySem.PyData.keyHash w.params ⟨#[83, 101, 97, 109]⟩, (.str ⟨#[83, 101, 97, 109]⟩ 563), (.ref 296)⟩, ⟨PySem.PyData.keyHash w.params ⟨#[111, 99, 99, 117, 114, 114, 105, 110, 103]⟩, (.str ⟨#[111, 99, 99, 117, 114, 114, 105, 110, 103]⟩ 575), (.ref 305)⟩, ⟨PySem.PyData.keyHash w.params ⟨#[97, 115, 99, 101, 110, 100, 105, 110, 103]⟩, (.str ⟨#[97, 115, 99, 101, 110, 100, 105, 110, 103]⟩ 581), (.ref 310)⟩, ⟨PySem.PyData.keyHash w.params ⟨#[102, 114, 101, 101]⟩, (.str ⟨#[102, 114, 101, 101]⟩ 588), (.ref 317)⟩, ⟨PySem.PyData.keyHash w.params ⟨#[103, 114, 101, 97, 116, 101, 115, 116]⟩, (.str ⟨#[103, 114, 101, 97, 116, 101, 115, 116]⟩ 595), (.ref 324)⟩, ⟨PySem.PyData.keyHash w.params ⟨#[112, 117, 116]⟩, (.str ⟨#[112, 117, 116]⟩ 601), (.ref 329)⟩, ⟨PySem.PyData.keyHash w.params ⟨#[102, 114, 101, 115, 104]⟩, (.str ⟨#[102, 114, 101, 115, 104]⟩ 609), (.ref 336)⟩, ⟨PySem.PyData.keyHash w.params ⟨#[119, 97, 121, 115]⟩, (.str ⟨#[119, 97, 121, 115]⟩ 615), (.ref 341)⟩, ⟨PySem.PyData.keyHash w.params ⟨#[108, 111, 110, 103, 101, 114, 95, 119, 97, 121, 115]⟩, (.str ⟨#[108, 111, 110, 103, 101, 114, 95, 119, 97, 121, 115]⟩ 621), (.ref 346)⟩, ⟨PySem.PyData.keyHash w.params ⟨#[119, 105, 100, 101, 110, 101, 100]⟩, (.str ⟨#[119, 105, 100, 101, 110, 101, 100]⟩ 627), (.ref 351)⟩, ⟨PySem.PyData.keyHash w.params ⟨#[101, 110, 111, 117, 103, 104]⟩, (.str ⟨#[101, 110, 111, 117, 103, 104]⟩ 636), (.ref 358)⟩, ⟨PySem.PyData.keyHash w.params ⟨#[115, 116, 97, 110, 100, 115]⟩, (.str ⟨#[115, 116, 97, 110, 100, 115]⟩ 646), (.ref 365)⟩, ⟨PySem.PyData.keyHash w.params ⟨#[102, 105, 108, 108, 105, 110, 103, 115]⟩, (.str ⟨#[102, 105, 108, 108, 105, 110, 103, 115]⟩ 652), (.ref 370)⟩, ⟨PySem.PyData.keyHash w.params ⟨#[116, 111, 108, 100, 95, 116, 101, 114, 109, 115]⟩, (.str ⟨#[116, 111, 108, 100, 95, 116, 101, 114, 109, 115]⟩ 658), (.ref 375)⟩, ⟨PySem.PyData.keyHash w.params ⟨#[117, 110, 108, 105, 107, 101]⟩, (.str ⟨#[117, 110, 108, 105, 107, 101]⟩ 668), (.ref 382)⟩, ⟨PySem.PyData.keyHash w.params ⟨#[101, 113, 117, 97, 108, 95, 108, 105, 115, 116, 115]⟩, (.str ⟨#[101, 113, 117, 97, 108, 95, 108, 105, 115, 116, 115]⟩ 674), (.ref 387)⟩, ⟨PySem.PyData.keyHash w.params ⟨#[105, 115, 95, 102, 108, 97, 116]⟩, (.str ⟨#[105, 115, 95, 102, 108, 97, 116]⟩ 680), (.ref 392)⟩, ⟨PySem.PyData.keyHash w.params ⟨#[102, 108, 97, 116, 95, 114, 111, 119, 115]⟩, (.str ⟨#[102, 108, 97, 116, 95, 114, 111, 119, 115]⟩ 686), (.ref 397)⟩, ⟨PySem.PyData.keyHash w.params ⟨#[115, 97, 109, 101]⟩, (.str ⟨#[115, 97, 109, 101]⟩ 699), (.ref 404)⟩, ⟨PySem.PyData.keyHash w.params ⟨#[109, 101, 109, 98, 101, 114]⟩, (.str ⟨#[109, 101, 109, 98, 101, 114]⟩ 705), (.ref 409)⟩, ⟨PySem.PyData.keyHash w.params ⟨#[119, 105, 116, 104, 105, 110]⟩, (.str ⟨#[119, 105, 116, 104, 105, 110]⟩ 711), (.ref 414)⟩, ⟨PySem.PyData.keyHash w.params ⟨#[104, 97, 115, 95, 115, 101, 116]⟩, (.str ⟨#[104, 97, 115, 95, 115, 101, 116]⟩ 719), (.ref 421)⟩, ⟨PySem.PyData.keyHash w.params ⟨#[114, 111, 119, 95, 111, 118, 101, 114]⟩, (.str ⟨#[114, 111, 119, 95, 111, 118, 101, 114]⟩ 725), (.ref 426)⟩, ⟨PySem.PyData.keyHash w.params ⟨#[98, 117, 105, 108, 116]⟩, (.str ⟨#[98, 117, 105, 108, 116]⟩ 731), (.ref 431)⟩, ⟨PySem.PyData.keyHash w.params ⟨#[115, 104, 105, 102, 116, 101, 100]⟩, (.str ⟨#[115, 104, 105, 102, 116, 101, 100]⟩ 737), (.ref 436)⟩, ⟨PySem.PyData.keyHash w.params ⟨#[69, 77, 80, 84, 89]⟩, (.str ⟨#[69, 77, 80, 84, 89]⟩ 739), (.ref 439)⟩, ⟨PySem.PyData.keyHash w.params ⟨#[115, 116, 111, 99, 107]⟩, (.str ⟨#[115, 116, 111, 99, 107]⟩ 745), (.ref 444)⟩, ⟨PySem.PyData.keyHash w.params ⟨#[82, 69, 83, 69, 82, 86, 69, 68]⟩, (.str ⟨#[82, 69, 83, 69, 82, 86, 69, 68]⟩ 764), (.ref 445)⟩, ⟨PySem.PyData.keyHash w.params ⟨#[68, 69, 69, 80, 69, 83, 84, 95, 116, 114, 101, 101, 115]⟩, (.str ⟨#[68, 69, 69, 80, 69, 83, 84, 95, 116, 114, 101, 101, 115]⟩ 766), (.int 40 765)⟩, ⟨PySem.PyData.keyHash w.params ⟨#[76, 69, 86, 69, 76, 83]⟩, (.str ⟨#[76, 69, 86, 69, 76, 83]⟩ 768), (.int 10 767)⟩, ⟨PySem.PyData.keyHash w.params ⟨#[71, 82, 69, 65, 84, 69, 83, 84]⟩, (.str ⟨#[71, 82, 69, 65, 84, 69, 83, 84]⟩ 772), (.int 1000000000000000000000000000000000000000000000000000000000000 771)⟩, ⟨PySem.PyData.keyHash w.params ⟨#[83, 73, 71, 78, 83]⟩, (.str ⟨#[83, 73, 71, 78, 83]⟩ 779), (.ref 446)⟩, ⟨PySem.PyData.keyHash w.params ⟨#[80, 76, 65, 73, 78]⟩, (.str ⟨#[80, 76, 65, 73, 78]⟩ 848), (.ref 447)⟩, ⟨PySem.PyData.keyHash w.params ⟨#[105, 115, 95, 119, 111, 114, 100]⟩, (.str ⟨#[105, 115, 95, 119, 111, 114, 100]⟩ 854), (.ref 469)⟩, ⟨PySem.PyData.keyHash w.params ⟨#[105, 115, 95, 110, 97, 109, 101]⟩, (.str ⟨#[105, 115, 95, 110, 97, 109, 101]⟩ 861), (.ref 476)⟩, ⟨PySem.PyData.keyHash w.params ⟨#[112, 97, 116, 116, 101, 114, 110, 95, 118, 97, 114, 105, 97, 98, 108, 101, 115]⟩, (.str ⟨#[112, 97, 116, 116, 101, 114, 110, 95, 118, 97, 114, 105, 97, 98, 108, 101, 115]⟩ 868), (.ref 483)⟩, ⟨PySem.PyData.keyHash w.params ⟨#[103, 111, 111, 100, 95, 112, 97, 116, 116, 101, 114, 110]⟩, (.str ⟨#[103, 111, 111, 100, 95, 112, 97, 116, 116, 101, 114, 110]⟩ 874), (.ref 488)⟩, ⟨PySem.PyData.keyHash w.params ⟨#[103, 111, 111, 100]⟩, (.str ⟨#[103, 111, 111, 100]⟩ 881), (.ref 494)⟩, ⟨PySem.PyData.keyHash w.params ⟨#[103, 111, 111, 100, 95, 101, 120, 112, 114, 101, 115, 115, 105, 111, 110]⟩, (.str ⟨#[103, 111, 111, 100, 95, 101, 120, 112, 114, 101, 115, 115, 105, 111, 110]⟩ 887), (.ref 499)⟩, ⟨PySem.PyData.keyHash w.params ⟨#[103, 111, 111, 100, 95, 103, 97, 116, 104, 101, 114]⟩, (.str ⟨#[103, 111, 111, 100, 95, 103, 97, 116, 104, 101, 114]⟩ 898), (.ref 506)⟩, ⟨PySem.PyData.keyHash w.params ⟨#[103, 111, 111, 100, 95, 116, 101, 115, 116]⟩, (.str ⟨#[103, 111, 111, 100, 95, 116, 101, 115, 116]⟩ 908), (.ref 513)⟩, ⟨PySem.PyData.keyHash w.params ⟨#[103, 111, 111, 100, 95, 104, 101, 97, 100]⟩, (.str ⟨#[103, 111, 111, 100, 95, 104, 101, 97, 100]⟩ 918), (.ref 520)⟩, ⟨PySem.PyData.keyHash w.params ⟨#[119, 114, 111, 110, 103, 95, 112, 108, 97, 99, 101]⟩, (.str ⟨#[119, 114, 111, 110, 103, 95, 112, 108, 97, 99, 101]⟩ 935), (.ref 529)⟩, ⟨PySem.PyData.keyHash w.params ⟨#[102, 114, 101, 101, 95, 118, 97, 114, 105, 97, 98, 108, 101, 115]⟩, (.str ⟨#[102, 114, 101, 101, 95, 118, 97, 114, 105, 97, 98, 108, 101, 115]⟩ 947), (.ref 538)⟩, ⟨PySem.PyData.keyHash w.params ⟨#[106, 111, 105, 110, 101, 100]⟩, (.str ⟨#[106, 111, 105, 110, 101, 100]⟩ 953), (.ref 543)⟩, ⟨PySem.PyData.keyHash w.params ⟨#[115, 116, 97, 116, 101, 95, 118, 97, 114, 105, 97, 98, 108, 101, 115]⟩, (.str ⟨#[115, 116, 97, 116, 101, 95, 118, 97, 114, 105, 97, 98, 108, 101, 115]⟩ 963), (.ref 550)⟩, ⟨PySem.PyData.keyHash w.params ⟨#[86, 65, 76, 85, 69, 95, 83, 73, 71, 78, 83]⟩, (.str ⟨#[86, 65, 76, 85, 69, 95, 83, 73, 71, 78, 83]⟩ 978), (.ref 551)⟩, ⟨PySem.PyData.keyHash w.params ⟨#[84, 69, 83, 84, 95, 83, 73, 71, 78, 83]⟩, (.str ⟨#[84, 69, 83, 84, 95, 83, 73, 71, 78, 83]⟩ 988), (.ref 552)⟩, ⟨PySem.PyData.keyHash w.params ⟨#[78, 85, 77, 66, 69, 82, 95, 83, 73, 71, 78, 83]⟩, (.str ⟨#[78, 85, 77, 66, 69, 82, 95, 83, 73, 71, 78, 83]⟩ 998), (.ref 553)⟩, ⟨PySem.PyData.keyHash w.params ⟨#[67, 79, 77, 80, 65, 82, 69]⟩, (.str ⟨#[67, 79, 77, 80, 65, 82, 69]⟩ 1005), (.ref 554)⟩, ⟨PySem.PyData.keyHash w.params ⟨#[68, 69, 69, 80, 69, 83, 84, 95, 114, 101, 97, 100, 105, 110, 103]⟩, (.str ⟨#[68, 69, 69, 80, 69, 83, 84, 95, 114, 101, 97, 100, 105, 110, 103]⟩ 1007), (.int 40 1006)⟩, ⟨PySem.PyData.keyHash w.params ⟨#[85, 110, 114, 101, 97, 100]⟩, (.str ⟨#[85, 110, 114, 101, 97, 100]⟩ 1038), (.ref 573)⟩, ⟨PySem.PyData.keyHash w.params ⟨#[82, 101, 97, 100, 101, 114]⟩, (.str ⟨#[82, 101, 97, 100, 101, 114]⟩ 1193), (.ref 677)⟩, ⟨PySem.PyData.keyHash w.params ⟨#[98, 114, 97, 99, 107, 101, 116, 101, 100]⟩, (.str ⟨#[98, 114, 97, 99, 107, 101, 116, 101, 100]⟩ 1204), (.ref 688)⟩, ⟨PySem.PyData.keyHash w.params ⟨#[70, 73, 82, 83, 84]⟩, (.str ⟨#[70, 73, 82, 83, 84]⟩ 1208), (.str ⟨#[107, 110, 111, 119, 110]⟩ 1207)⟩, ⟨PySem.PyData.keyHash w.params ⟨#[65, 83, 83, 73, 71, 78, 95, 108, 105, 110, 101, 115]⟩, (.str ⟨#[65, 83, 83, 73, 71, 78, 95, 108, 105, 110, 101, 115]⟩ 1215), (.ref 692)⟩, ⟨PySem.PyData.keyHash w.params ⟨#[114, 101, 97, 100, 95, 108, 105, 110, 101, 115]⟩, (.str ⟨#[114, 101, 97, 100, 95, 108, 105, 110, 101, 115]⟩ 1226), (.ref 699)⟩, ⟨PySem.PyData.keyHash w.params ⟨#[114, 101, 97, 100, 95, 107, 110, 111, 119, 110]⟩, (.str ⟨#[114, 101, 97, 100, 95, 107, 110, 111, 119, 110]⟩ 1232), (.ref 704)⟩, ⟨PySem.PyData.keyHash w.params ⟨#[105, 110, 100, 101, 110, 116, 97, 116, 105, 111, 110]⟩, (.str ⟨#[105, 110, 100, 101, 110, 116, 97, 116, 105, 111, 110]⟩ 1239), (.ref 711)⟩, ⟨PySem.PyData.keyHash w.params ⟨#[114, 101, 97, 100, 95, 98, 108, 111, 99, 107]⟩, (.str ⟨#[114, 101, 97, 100, 95, 98, 108, 111, 99, 107]⟩ 1251), (.ref 718)⟩, ⟨PySem.PyData.keyHash w.params ⟨#[114, 101, 97, 100, 95, 115, 116, 97, 116, 101, 109, 101, 110, 116]⟩, (.str ⟨#[114, 101, 97, 100, 95, 115, 116, 97, 116, 101, 109, 101, 110, 116]⟩ 1267), (.ref 725)⟩, ⟨PySem.PyData.keyHash w.params ⟨#[114, 101, 97, 100, 95, 105, 110, 110, 101, 114]⟩, (.str ⟨#[114, 101, 97, 100, 95, 105, 110, 110, 101, 114]⟩ 1278), (.ref 732)⟩, ⟨PySem.PyData.keyHash w.params ⟨#[114, 101, 97, 100, 95, 104, 101, 97, 100]⟩, (.str ⟨#[114, 101, 97, 100, 95, 104, 101, 97, 100]⟩ 1294), (.ref 739)⟩, ⟨PySem.PyData.keyHash w.params ⟨#[104, 101, 97, 100, 95, 111, 102]⟩, (.str ⟨#[104, 101, 97, 100, 95, 111, 102]⟩ 1305), (.ref 746)⟩, ⟨PySem.PyData.keyHash w.params ⟨#[83, 73, 71, 78, 95, 79, 70]⟩, (.str ⟨#[83, 73, 71, 78, 95, 79, 70]⟩ 1344), (.ref 747)⟩, ⟨PySem.PyData.keyHash w.params ⟨#[65, 83, 83, 73, 71, 78, 95, 119, 114, 105, 116, 105, 110, 103]⟩, (.str ⟨#[65, 83, 83, 73, 71, 78, 95, 119, 114, 105, 116, 105, 110, 103]⟩ 1354), (.ref 748)⟩, ⟨PySem.PyData.keyHash w.params ⟨#[112, 97, 116, 116, 101, 114, 110, 95, 116, 101, 120, 116]⟩, (.str ⟨#[112, 97, 116, 116, 101, 114, 110, 95, 116, 101, 120, 116]⟩ 1361), (.ref 755)⟩, ⟨PySem.PyData.keyHash w.params ⟨#[116, 114, 101, 101, 95, 116, 101, 120, 116]⟩, (.str ⟨#[116, 114, 101, 101, 95, 116, 101, 120, 116]⟩ 1367), (.ref 760)⟩, ⟨PySem.PyData.keyHash w.params ⟨#[103, 97, 116, 104, 101, 114, 95, 116, 101, 120, 116]⟩, (.str ⟨#[103, 97, 116, 104, 101, 114, 95, 116, 101, 120, 116]⟩ 1373), (.ref 765)⟩, ⟨PySem.PyData.keyHash w.params ⟨#[115, 116, 97, 116, 101, 109, 101, 110, 116, 95, 108, 105, 110, 101, 115]⟩, (.str ⟨#[115, 116, 97, 116, 101, 109, 101, 110, 116, 95, 108, 105, 110, 101, 115]⟩ 1379), (.ref 770)⟩, ⟨PySem.PyData.keyHash w.params ⟨#[108, 105, 110, 101, 115, 95, 111, 102]⟩, (.str ⟨#[108, 105, 110, 101, 115, 95, 111, 102]⟩ 1390), (.ref 777)⟩, ⟨PySem.PyData.keyHash w.params ⟨#[112, 114, 111, 103, 114, 97, 109, 95, 116, 101, 120, 116]⟩, (.str ⟨#[112, 114, 111, 103, 114, 97, 109, 95, 116, 101, 120, 116]⟩ 1399), (.ref 784)⟩, ⟨PySem.PyData.keyHash w.params ⟨#[80, 114, 111, 103, 114, 97, 109]⟩, (.str ⟨#[80, 114, 111, 103, 114, 97, 109]⟩ 1493), (.ref 848)⟩, ⟨PySem.PyData.keyHash w.params ⟨#[99, 104, 97, 105, 110, 101, 100]⟩, (.str ⟨#[99, 104, 97, 105, 110, 101, 100]⟩ 1499), (.ref 857)⟩, ⟨PySem.PyData.keyHash w.params ⟨#[105, 115, 95, 119, 104, 111, 108, 101]⟩, (.str ⟨#[105, 115, 95, 119, 104, 111, 108, 101]⟩ 1508), (.ref 864)⟩, ⟨PySem.PyData.keyHash w.params ⟨#[119, 104, 111, 108, 101, 95, 108, 105, 115, 116]⟩, (.str ⟨#[119, 104, 111, 108, 101, 95, 108, 105, 115, 116]⟩ 1514), (.ref 869)⟩, ⟨PySem.PyData.keyHash w.params ⟨#[116, 114, 105, 109, 109, 101, 100]⟩, (.str ⟨#[116, 114, 105, 109, 109, 101, 100]⟩ 1522), (.ref 876)⟩, ⟨PySem.PyData.keyHash w.params ⟨#[119, 104, 111, 108, 101, 95, 114, 111, 119]⟩, (.str ⟨#[119, 104, 111, 108, 101, 95, 114, 111, 119]⟩ 1529), (.ref 883)⟩, ⟨PySem.PyData.keyHash w.params ⟨#[114, 111, 119, 95, 118, 97, 108, 117, 101]⟩, (.str ⟨#[114, 111, 119, 95, 118, 97, 108, 117, 101]⟩ 1541), (.ref 890)⟩, ⟨PySem.PyData.keyHash w.params ⟨#[100, 105, 102, 102, 101, 114, 101, 110, 99, 101, 115]⟩, (.str ⟨#[100, 105, 102, 102, 101, 114, 101, 110, 99, 101, 115]⟩ 1547), (.ref 895)⟩, ⟨PySem.PyData.keyHash w.params ⟨#[114, 111, 119, 95, 109, 111, 118, 101, 100]⟩, (.str ⟨#[114, 111, 119, 95, 109, 111, 118, 101, 100]⟩ 1553), (.ref 900)⟩, ⟨PySem.PyData.keyHash w.params ⟨#[110, 101, 103, 97, 116, 101, 100]⟩, (.str ⟨#[110, 101, 103, 97, 116, 101, 100]⟩ 1559), (.ref 905)⟩, ⟨PySem.PyData.keyHash w.params ⟨#[97, 100, 100, 95, 114, 111, 119, 115]⟩, (.str ⟨#[97, 100, 100, 95, 114, 111, 119, 115]⟩ 1565), (.ref 910)⟩, ⟨PySem.PyData.keyHash w.params ⟨#[116, 97, 107, 101, 95, 114, 111, 119, 115]⟩, (.str ⟨#[116, 97, 107, 101, 95, 114, 111, 119, 115]⟩ 1573), (.ref 917)⟩, ⟨PySem.PyData.keyHash w.params ⟨#[109, 117, 108, 116, 105, 112, 108, 121, 95, 114, 111, 119, 115]⟩, (.str ⟨#[109, 117, 108, 116, 105, 112, 108, 121, 95, 114, 111, 119, 115]⟩ 1579), (.ref 922)⟩, ⟨PySem.PyData.keyHash w.params ⟨#[102, 97, 108, 108, 105, 110, 103, 95, 114, 111, 119]⟩, (.str ⟨#[102, 97, 108, 108, 105, 110, 103, 95, 114, 111, 119]⟩ 1589), (.ref 929)⟩, ⟨PySem.PyData.keyHash w.params ⟨#[115, 105, 103, 110, 95, 111, 102]⟩, (.str ⟨#[115, 105, 103, 110, 95, 111, 102]⟩ 1596), (.ref 936)⟩, ⟨PySem.PyData.keyHash w.params ⟨#[102, 105, 114, 115, 116, 95, 102, 114, 111, 109]⟩, (.str ⟨#[102, 105, 114, 115, 116, 95, 102, 114, 111, 109]⟩ 1608), (.ref 943)⟩, ⟨PySem.PyData.keyHash w.params ⟨#[99, 117, 116, 95, 98, 121, 95, 115, 105, 103, 110]⟩, (.str ⟨#[99, 117, 116, 95, 98, 121, 95, 115, 105, 103, 110]⟩ 1614), (.ref 948)⟩, ⟨PySem.PyData.keyHash w.params ⟨#[106, 111, 105, 110, 101, 100, 95, 115, 105, 103, 110, 115]⟩, (.str ⟨#[106, 111, 105, 110, 101, 100, 95, 115, 105, 103, 110, 115]⟩ 1625), (.ref 955)⟩, ⟨PySem.PyData.keyHash w.params ⟨#[115, 105, 103, 110, 115, 95, 111, 102]⟩, (.str ⟨#[115, 105, 103, 110, 115, 95, 111, 102]⟩ 1631), (.ref 960)⟩, ⟨PySem.PyData.keyHash w.params ⟨#[108, 101, 97, 115, 116, 95, 115, 105, 103, 110]⟩, (.str ⟨#[108, 101, 97, 115, 116, 95, 115, 105, 103, 110]⟩ 1637), (.ref 965)⟩, ⟨PySem.PyData.keyHash w.params ⟨#[114, 111, 119, 95, 111, 102]⟩, (.str ⟨#[114, 111, 119, 95, 111, 102]⟩ 1644), (.ref 972)⟩, ⟨PySem.PyData.keyHash w.params ⟨#[83, 105, 122, 101]⟩, (.str ⟨#[83, 105, 122, 101]⟩ 1887), (.ref 1152)⟩, ⟨PySem.PyData.keyHash w.params ⟨#[85, 78, 73, 79, 78]⟩, (.str ⟨#[85, 78, 73, 79, 78]⟩ 1890), (.ref 1157)⟩, ⟨PySem.PyData.keyHash w.params ⟨#[77, 69, 69, 84]⟩, (.str ⟨#[77, 69, 69, 84]⟩ 1891), (.ref 1158)⟩, ⟨PySem.PyData.keyHash w.params ⟨#[87, 73, 84, 72, 79, 85, 84]⟩, (.str ⟨#[87, 73, 84, 72, 79, 85, 84]⟩ 1892), (.ref 1159)⟩, ⟨PySem.PyData.keyHash w.params ⟨#[69, 73, 84, 72, 69, 82]⟩, (.str ⟨#[69, 73, 84, 72, 69, 82]⟩ 1893), (.ref 1160)⟩, ⟨PySem.PyData.keyHash w.params ⟨#[69, 86, 69, 82, 89]⟩, (.str ⟨#[69, 86, 69, 82, 89]⟩ 1895), (.ref 1162)⟩, ⟨PySem.PyData.keyHash w.params ⟨#[105, 115, 95, 115, 116, 114, 101, 116, 99, 104]⟩, (.str ⟨#[105, 115, 95, 115, 116, 114, 101, 116, 99, 104]⟩ 1904), (.ref 1169)⟩, ⟨PySem.PyData.keyHash w.params ⟨#[116, 117, 114, 110, 105, 110, 103, 95, 112, 111, 105, 110, 116, 115]⟩, (.str ⟨#[116, 117, 114, 110, 105, 110, 103, 95, 112, 111, 105, 110, 116, 115]⟩ 1910), (.ref 1174)⟩, ⟨PySem.PyData.keyHash w.params ⟨#[112, 97, 105, 114, 101, 100]⟩, (.str ⟨#[112, 97, 105, 114, 101, 100]⟩ 1916), (.ref 1179)⟩, ⟨PySem.PyData.keyHash w.params ⟨#[99, 111, 109, 98, 105, 110, 101, 100]⟩, (.str ⟨#[99, 111, 109, 98, 105, 110, 101, 100]⟩ 1931), (.ref 1186)⟩, ⟨PySem.PyData.keyHash w.params ⟨#[115, 112, 97, 110, 95, 109, 111, 118, 101, 100]⟩, (.str ⟨#[115, 112, 97, 110, 95, 109, 111, 118, 101, 100]⟩ 1937), (.ref 1191)⟩, ⟨PySem.PyData.keyHash w.params ⟨#[108, 105, 101, 115, 95, 105, 110]⟩, (.str ⟨#[108, 105, 101, 115, 95, 105, 110]⟩ 1943), (.ref 1196)⟩, ⟨PySem.PyData.keyHash w.params ⟨#[115, 116, 114, 101, 116, 99, 104, 95, 116, 101, 120, 116]⟩, (.str ⟨#[115, 116, 114, 101, 116, 99, 104, 95, 116, 101, 120, 116]⟩ 1951), (.ref 1203)⟩, ⟨PySem.PyData.keyHash w.params ⟨#[83, 112, 97, 110]⟩, (.str ⟨#[83, 112, 97, 110]⟩ 2210), (.ref 1402)⟩, ⟨PySem.PyData.keyHash w.params ⟨#[72, 79, 76, 68, 83]⟩, (.str ⟨#[72, 79, 76, 68, 83]⟩ 2237), (.ref 1407)⟩, ⟨PySem.PyData.keyHash w.params ⟨#[105, 115, 95, 112, 105, 101, 99, 101]⟩, (.str ⟨#[105, 115, 95, 112, 105, 101, 99, 101]⟩ 2247), (.ref 1420)⟩, ⟨PySem.PyData.keyHash w.params ⟨#[112, 105, 101, 99, 101, 115, 95, 111, 102]⟩, (.str ⟨#[112, 105, 101, 99, 101, 115, 95, 111, 102]⟩ 2253), (.ref 1425)⟩, ⟨PySem.PyData.keyHash w.params ⟨#[112, 105, 101, 99, 101, 95, 97, 116]⟩, (.str ⟨#[112, 105, 101, 99, 101, 95, 97, 116]⟩ 2264), (.ref 1432)⟩, ⟨PySem.PyData.keyHash w.params ⟨#[108, 105, 110, 101, 100]⟩, (.str ⟨#[108, 105, 110, 101, 100]⟩ 2270), (.ref 1437)⟩, ⟨PySem.PyData.keyHash w.params ⟨#[97, 112, 97, 114, 116, 95, 115, 105, 103, 110, 115]⟩, (.str ⟨#[97, 112, 97, 114, 116, 95, 115, 105, 103, 110, 115]⟩ 2283), (.ref 1444)⟩, ⟨PySem.PyData.keyHash w.params ⟨#[108, 101, 97, 115, 116, 95, 97, 112, 97, 114, 116]⟩, (.str ⟨#[108, 101, 97, 115, 116, 95, 97, 112, 97, 114, 116]⟩ 2289), (.ref 1449)⟩, ⟨PySem.PyData.keyHash w.params ⟨#[97, 100, 100, 101, 100]⟩, (.str ⟨#[97, 100, 100, 101, 100]⟩ 2295), (.ref 1454)⟩, ⟨PySem.PyData.keyHash w.params ⟨#[109, 117, 108, 116, 105, 112, 108, 105, 101, 100]⟩, (.str ⟨#[109, 117, 108, 116, 105, 112, 108, 105, 101, 100]⟩ 2301), (.ref 1459)⟩, ⟨PySem.PyData.keyHash w.params ⟨#[111, 112, 112, 111, 115, 105, 116, 101]⟩, (.str ⟨#[111, 112, 112, 111, 115, 105, 116, 101]⟩ 2307), (.ref 1464)⟩, ⟨PySem.PyData.keyHash w.params ⟨#[84, 97, 108, 108, 121]⟩, (.str ⟨#[84, 97, 108, 108, 121]⟩ 2516), (.ref 1616)⟩, ⟨PySem.PyData.keyHash w.params ⟨#[102, 105, 98, 114, 101]⟩, (.str ⟨#[102, 105, 98, 114, 101]⟩ 2533), (.ref 1627)⟩, ⟨PySem.PyData.keyHash w.params ⟨#[111, 114, 98, 105, 116, 95, 114, 111, 119]⟩, (.str ⟨#[111, 114, 98, 105, 116, 95, 114, 111, 119]⟩ 2539), (.ref 1632)⟩, ⟨PySem.PyData.keyHash w.params ⟨#[99, 111, 117, 110, 116, 95, 114, 111, 119]⟩, (.str ⟨#[99, 111, 117, 110, 116, 95, 114, 111, 119]⟩ 2551), (.ref 1639)⟩, ⟨PySem.PyData.keyHash w.params ⟨#[99, 111, 109, 112, 97, 114, 101, 95, 114, 111, 119, 115]⟩, (.str ⟨#[99, 111, 109, 112, 97, 114, 101, 95, 114, 111, 119, 115]⟩ 2567), (.ref 1646)⟩, ⟨PySem.PyData.keyHash w.params ⟨#[119, 114, 105, 116, 116, 101, 110]⟩, (.str ⟨#[119, 114, 105, 116, 116, 101, 110]⟩ 2575), (.ref 1651)⟩, ⟨PySem.PyData.keyHash w.params ⟨#[99, 111, 108, 108, 101, 99, 116, 101, 100]⟩, (.str ⟨#[99, 111, 108, 108, 101, 99, 116, 101, 100]⟩ 2584), (.ref 1658)⟩, ⟨PySem.PyData.keyHash w.params ⟨#[110, 117, 109, 98, 101, 114]⟩, (.str ⟨#[110, 117, 109, 98, 101, 114]⟩ 2593), (.ref 1665)⟩, ⟨PySem.PyData.keyHash w.params ⟨#[99, 111, 117, 110, 116, 95, 97, 116]⟩, (.str ⟨#[99, 111, 117, 110, 116, 95, 97, 116]⟩ 2601), (.ref 1672)⟩, ⟨PySem.PyData.keyHash w.params ⟨#[116, 114, 101, 101, 95, 115, 105, 122, 101]⟩, (.str ⟨#[116, 114, 101, 101, 95, 115, 105, 122, 101]⟩ 2607), (.ref 1677)⟩, ⟨PySem.PyData.keyHash w.params ⟨#[97, 114, 114, 97, 110, 103, 101, 109, 101, 110, 116, 115]⟩, (.str ⟨#[97, 114, 114, 97, 110, 103, 101, 109, 101, 110, 116, 115]⟩ 2613), (.ref 1682)⟩, ⟨PySem.PyData.keyHash w.params ⟨#[115, 104, 111, 119, 110]⟩, (.str ⟨#[115, 104, 111, 119, 110]⟩ 2619), (.ref 1687)⟩, ⟨PySem.PyData.keyHash w.params ⟨#[115, 104, 111, 119, 110, 95, 119, 105, 116, 104, 105, 110]⟩, (.str ⟨#[115, 104, 111, 119, 110, 95, 119, 105, 116, 104, 105, 110]⟩ 2629), (.ref 1694)⟩, ⟨PySem.PyData.keyHash w.params ⟨#[116, 97, 107, 101, 110]⟩, (.str ⟨#[116, 97, 107, 101, 110]⟩ 2635), (.ref 1699)⟩, ⟨PySem.PyData.keyHash w.params ⟨#[104, 97, 110, 100, 95, 111, 102]⟩, (.str ⟨#[104, 97, 110, 100, 95, 111, 102]⟩ 2643), (.ref 1704)⟩, ⟨PySem.PyData.keyHash w.params ⟨#[118, 97, 108, 117, 101, 95, 111, 102]⟩, (.str ⟨#[118, 97, 108, 117, 101, 95, 111, 102]⟩ 2649), (.ref 1709)⟩, ⟨PySem.PyData.keyHash w.params ⟨#[109, 105, 120, 101, 100]⟩, (.str ⟨#[109, 105, 120, 101, 100]⟩ 2655), (.ref 1714)⟩, ⟨PySem.PyData.keyHash w.params ⟨#[109, 101, 109, 98, 101, 114, 115, 95, 104, 97, 110, 100]⟩, (.str ⟨#[109, 101, 109, 98, 101, 114, 115, 95, 104, 97, 110, 100]⟩ 2662), (.ref 1721)⟩, ⟨PySem.PyData.keyHash w.params ⟨#[106, 111, 105, 110, 95, 111, 102]⟩, (.str ⟨#[106, 111, 105, 110, 95, 111, 102]⟩ 2668), (.ref 1726)⟩, ⟨PySem.PyData.keyHash w.params ⟨#[98, 111, 117, 110, 100, 95, 98, 121]⟩, (.str ⟨#[98, 111, 117, 110, 100, 95, 98, 121]⟩ 2679), (.ref 1733)⟩, ⟨PySem.PyData.keyHash w.params ⟨#[99, 104, 111, 105, 99, 101, 115]⟩, (.str ⟨#[99, 104, 111, 105, 99, 101, 115]⟩ 2685), (.ref 1738)⟩, ⟨PySem.PyData.keyHash w.params ⟨#[103, 97, 116, 104, 101, 114, 101, 100]⟩, (.str ⟨#[103, 97, 116, 104, 101, 114, 101, 100]⟩ 2691), (.ref 1743)⟩, ⟨PySem.PyData.keyHash w.params ⟨#[104, 111, 108, 100, 115]⟩, (.str ⟨#[104, 111, 108, 100, 115]⟩ 2704), (.ref 1750)⟩, ⟨PySem.PyData.keyHash w.params ⟨#[113, 117, 97, 110, 116, 105, 102, 105, 101, 100]⟩, (.str ⟨#[113, 117, 97, 110, 116, 105, 102, 105, 101, 100]⟩ 2716), (.ref 1757)⟩, ⟨PySem.PyData.keyHash w.params ⟨#[110, 117, 109, 98, 101, 114, 95, 111, 102]⟩, (.str ⟨#[110, 117, 109, 98, 101, 114, 95, 111, 102]⟩ 2728), (.ref 1764)⟩, ⟨PySem.PyData.keyHash w.params ⟨#[111, 114, 100, 101, 114, 115, 95, 111, 102]⟩, (.str ⟨#[111, 114, 100, 101, 114, 115, 95, 111, 102]⟩ 2745), (.ref 1771)⟩, ⟨PySem.PyData.keyHash w.params ⟨#[101, 113, 117, 97, 108, 95, 115, 116, 97, 116, 101, 115]⟩, (.str ⟨#[101, 113, 117, 97, 108, 95, 115, 116, 97, 116, 101, 115]⟩ 2756), (.ref 1778)⟩, ⟨PySem.PyData.keyHash w.params ⟨#[101, 97, 114, 108, 105, 101, 114]⟩, (.str ⟨#[101, 97, 114, 108, 105, 101, 114]⟩ 2770), (.ref 1785)⟩, ⟨PySem.PyData.keyHash w.params ⟨#[109, 111, 118, 101, 100]⟩, (.str ⟨#[109, 111, 118, 101, 100]⟩ 2785), (.ref 1792)⟩, ⟨PySem.PyData.keyHash w.params ⟨#[114, 117, 110, 95, 111, 118, 101, 114]⟩, (.str ⟨#[114, 117, 110, 95, 111, 118, 101, 114]⟩ 2805), (.ref 1799)⟩, ⟨PySem.PyData.keyHash w.params ⟨#[115, 116, 97, 114, 116]⟩, (.str ⟨#[115, 116, 97, 114, 116]⟩ 2814), (.ref 1806)⟩, ⟨PySem.PyData.keyHash w.params ⟨#[104, 97, 108, 118, 101, 115]⟩, (.str ⟨#[104, 97, 108, 118, 101, 115]⟩ 2823), (.ref 1813)⟩, ⟨PySem.PyData.keyHash w.params ⟨#[101, 120, 101, 99, 117, 116, 101, 100]⟩, (.str ⟨#[101, 120, 101, 99, 117, 116, 101, 100]⟩ 2838), (.ref 1820)⟩, ⟨PySem.PyData.keyHash w.params ⟨#[101, 120, 101, 99, 117, 116, 101]⟩, (.str ⟨#[101, 120, 101, 99, 117, 116, 101]⟩ 2844), (.ref 1825)⟩, ⟨PySem.PyData.keyHash w.params ⟨#[116, 114, 117, 116, 104, 95, 114, 111, 119, 115]⟩, (.str ⟨#[116, 114, 117, 116, 104, 95, 114, 111, 119, 115]⟩ 2859), (.ref 1832)⟩, ⟨PySem.PyData.keyHash w.params ⟨#[116, 114, 117, 116, 104, 115]⟩, (.str ⟨#[116, 114, 117, 116, 104, 115]⟩ 2865), (.ref 1837)⟩, ⟨PySem.PyData.keyHash w.params ⟨#[118, 97, 108, 117, 101, 95, 114, 111, 119, 115]⟩, (.str ⟨#[118, 97, 108, 117, 101, 95, 114, 111, 119, 115]⟩ 2880), (.ref 1844)⟩, ⟨PySem.PyData.keyHash w.params ⟨#[118, 97, 108, 117, 101, 115]⟩, (.str ⟨#[118, 97, 108, 117, 101, 115]⟩ 2886), (.ref 1849)⟩, ⟨PySem.PyData.keyHash w.params ⟨#[99, 111, 117, 110, 116, 115]⟩, (.str ⟨#[99, 111, 117, 110, 116, 115]⟩ 2901), (.ref 1856)⟩, ⟨PySem.PyData.keyHash w.params ⟨#[119, 105, 116, 104, 95, 107, 110, 111, 119, 110]⟩, (.str ⟨#[119, 105, 116, 104, 95, 107, 110, 111, 119, 110]⟩ 2917), (.ref 1863)⟩, ⟨PySem.PyData.keyHash w.params ⟨#[82, 79, 85, 78, 68, 83]⟩, (.str ⟨#[82, 79, 85, 78, 68, 83]⟩ 2921), (.int 60 2920)⟩, ⟨PySem.PyData.keyHash w.params ⟨#[79, 78, 69]⟩, (.str ⟨#[79, 78, 69]⟩ 2924), (.ref 1864)⟩, ⟨PySem.PyData.keyHash w.params ⟨#[84, 87, 79]⟩, (.str ⟨#[84, 87, 79]⟩ 2927), (.ref 1865)⟩, ⟨PySem.PyData.keyHash w.params ⟨#[70, 97, 109, 105, 108, 121]⟩, (.str ⟨#[70, 97, 109, 105, 108, 121]⟩ 3174), (.ref 2062)⟩, ⟨PySem.PyData.keyHash w.params ⟨#[108, 111, 111, 107, 95, 97, 116, 95, 116, 114, 101, 101]⟩, (.str ⟨#[108, 111, 111, 107, 95, 97, 116, 95, 116, 114, 101, 101]⟩ 3180), (.ref 2071)⟩, ⟨PySem.PyData.keyHash w.params ⟨#[108, 111, 111, 107, 95, 97, 116, 95, 115, 116, 111, 99, 107]⟩, (.str ⟨#[108, 111, 111, 107, 95, 97, 116, 95, 115, 116, 111, 99, 107]⟩ 3186), (.ref 2076)⟩, ⟨PySem.PyData.keyHash w.params ⟨#[105, 115, 95, 115, 104, 111, 119, 110, 95, 97, 116]⟩, (.str ⟨#[105, 115, 95, 115, 104, 111, 119, 110, 95, 97, 116]⟩ 3192), (.ref 2081)⟩, ⟨PySem.PyData.keyHash w.params ⟨#[107, 110, 111, 119, 110, 95, 105, 110]⟩, (.str ⟨#[107, 110, 111, 119, 110, 95, 105, 110]⟩ 3198), (.ref 2086)⟩, ⟨PySem.PyData.keyHash w.params ⟨#[118, 97, 108, 117, 101, 95, 97, 116]⟩, (.str ⟨#[118, 97, 108, 117, 101, 95, 97, 116]⟩ 3204), (.ref 2091)⟩, ⟨PySem.PyData.keyHash w.params ⟨#[115, 105, 110, 103, 108, 101]⟩, (.str ⟨#[115, 105, 110, 103, 108, 101]⟩ 3211), (.ref 2098)⟩, ⟨PySem.PyData.keyHash w.params ⟨#[109, 101, 116]⟩, (.str ⟨#[109, 101, 116]⟩ 3228), (.ref 2105)⟩, ⟨PySem.PyData.keyHash w.params ⟨#[98, 108, 101, 110, 100, 101, 100, 95, 114, 111, 119, 115]⟩, (.str ⟨#[98, 108, 101, 110, 100, 101, 100, 95, 114, 111, 119, 115]⟩ 3237), (.ref 2112)⟩, ⟨PySem.PyData.keyHash w.params ⟨#[98, 108, 101, 110, 100, 101, 100]⟩, (.str ⟨#[98, 108, 101, 110, 100, 101, 100]⟩ 3246), (.ref 2119)⟩, ⟨PySem.PyData.keyHash w.params ⟨#[97, 108, 119, 97, 121, 115]⟩, (.str ⟨#[97, 108, 119, 97, 121, 115]⟩ 3255), (.ref 2126)⟩, ⟨PySem.PyData.keyHash w.params ⟨#[99, 111, 109, 112, 97, 114, 101, 100]⟩, (.str ⟨#[99, 111, 109, 112, 97, 114, 101, 100]⟩ 3265), (.ref 2134)⟩, ⟨PySem.PyData.keyHash w.params ⟨#[115, 112, 97, 110, 95, 111, 102]⟩, (.str ⟨#[115, 112, 97, 110, 95, 111, 102]⟩ 3271), (.ref 2139)⟩, ⟨PySem.PyData.keyHash w.params ⟨#[83, 116, 97, 110, 100, 105, 110, 103]⟩, (.str ⟨#[83, 116, 97, 110, 100, 105, 110, 103]⟩ 3309), (.ref 2156)⟩, ⟨PySem.PyData.keyHash w.params ⟨#[115, 117, 99, 99, 101, 115, 115, 111, 114]⟩, (.str ⟨#[115, 117, 99, 99, 101, 115, 115, 111, 114]⟩ 3317), (.ref 2167)⟩, ⟨PySem.PyData.keyHash w.params ⟨#[116, 114, 101, 101, 95, 119, 111, 114, 100, 115]⟩, (.str ⟨#[116, 114, 101, 101, 95, 119, 111, 114, 100, 115]⟩ 3328), (.ref 2174)⟩, ⟨PySem.PyData.keyHash w.params ⟨#[98, 111, 117, 110, 100, 95, 119, 111, 114, 100, 115]⟩, (.str ⟨#[98, 111, 117, 110, 100, 95, 119, 111, 114, 100, 115]⟩ 3338), (.ref 2181)⟩, ⟨PySem.PyData.keyHash w.params ⟨#[97, 115, 115, 105, 103, 110, 101, 100]⟩, (.str ⟨#[97, 115, 115, 105, 103, 110, 101, 100]⟩ 3348), (.ref 2188)⟩, ⟨PySem.PyData.keyHash w.params ⟨#[114, 117, 108, 101, 100, 95, 110, 97, 109, 101, 115]⟩, (.str ⟨#[114, 117, 108, 101, 100, 95, 110, 97, 109, 101, 115]⟩ 3354), (.ref 2193)⟩, ⟨PySem.PyData.keyHash w.params ⟨#[112, 108, 97, 99, 101, 95, 111, 102]⟩, (.str ⟨#[112, 108, 97, 99, 101, 95, 111, 102]⟩ 3364), (.ref 2200)⟩, ⟨PySem.PyData.keyHash w.params ⟨#[108, 111, 111, 107, 95, 97, 116, 95, 100, 101, 101, 100]⟩, (.str ⟨#[108, 111, 111, 107, 95, 97, 116, 95, 100, 101, 101, 100]⟩ 3370), (.ref 2205)⟩, ⟨PySem.PyData.keyHash w.params ⟨#[108, 111, 111, 107, 95, 97, 116, 95, 114, 117, 108, 101]⟩, (.str ⟨#[108, 111, 111, 107, 95, 97, 116, 95, 114, 117, 108, 101]⟩ 3376), (.ref 2210)⟩, ⟨PySem.PyData.keyHash w.params ⟨#[103, 111, 111, 100, 95, 99, 108, 97, 117, 115, 101]⟩, (.str ⟨#[103, 111, 111, 100, 95, 99, 108, 97, 117, 115, 101]⟩ 3382), (.ref 2215)⟩, ⟨PySem.PyData.keyHash w.params ⟨#[108, 111, 111, 107, 95, 97, 116, 95, 103, 117, 97, 114, 100]⟩, (.str ⟨#[108, 111, 111, 107, 95, 97, 116, 95, 103, 117, 97, 114, 100]⟩ 3388), (.ref 2220)⟩, ⟨PySem.PyData.keyHash w.params ⟨#[117, 115, 101, 100, 95, 119, 111, 114, 100, 115]⟩, (.str ⟨#[117, 115, 101, 100, 95, 119, 111, 114, 100, 115]⟩ 3394), (.ref 2225)⟩, ⟨PySem.PyData.keyHash w.params ⟨#[114, 101, 115, 116, 101, 100]⟩, (.str ⟨#[114, 101, 115, 116, 101, 100]⟩ 3411), (.ref 2232)⟩, ⟨PySem.PyData.keyHash w.params ⟨#[97, 102, 116, 101, 114, 95, 100, 101, 101, 100]⟩, (.str ⟨#[97, 102, 116, 101, 114, 95, 100, 101, 101, 100]⟩ 3420), (.ref 2239)⟩, ⟨PySem.PyData.keyHash w.params ⟨#[103, 97, 116, 104, 101, 114, 105, 110, 103]⟩, (.str ⟨#[103, 97, 116, 104, 101, 114, 105, 110, 103]⟩ 3429), (.ref 2246)⟩, ⟨PySem.PyData.keyHash w.params ⟨#[115, 101, 116, 116, 108, 101]⟩, (.str ⟨#[115, 101, 116, 116, 108, 101]⟩ 3441), (.ref 2253)⟩, ⟨PySem.PyData.keyHash w.params ⟨#[108, 101, 115, 115, 101, 114]⟩, (.str ⟨#[108, 101, 115, 115, 101, 114]⟩ 3449), (.ref 2260)⟩] 213), #[]⟩, boot_o_4 w.params, boot_o_5 w.params, boot_o_6 w.params, boot_o_7 w.params, boot_o_8 w.params, boot_o_9 w.params, boot_o_10 w.params, ⟨(.type "tuple"), none, (.seq #[] 0), #[]⟩, ⟨.none, none, (.fields #[(.int 1 0), (.int 0 0), (.ref 20), (.int 5 0), (.int 0 0), (.ref 27), (.int 7 0), (.int 0 0), (.ref 41), (.int 12 0), (.int 0 0), (.ref 62), (.int 17 0), (.int 0 0), (.ref 83), (.int 22 0), (.int 0 0), (.ref 104), (.int 28 0), (.int 0 0), (.ref 125), (.int 33 0), (.int 0 0), (.ref 146), (.int 38 0), (.int 0 0), (.ref 167), (.int 43 0), (.int 0 0), (.ref 187), (.int 45 0), (.int 0 0), (.ref 200), (.int 50 0), (.int 0 0), (.ref 221), (.int 56 0), (.int 0 0), (.ref 242), (.int 63 0), (.int 0 0), (.ref 263), (.int 69 0), (.int 0 0), (.ref 284), (.int 75 0), (.int 0 0), (.ref 304), (.int 87 0), (.int 0 0), (.ref 309), (.int 89 0), (.int 0 0), (.ref 316), (.int 91 0), (.int 0 0), (.ref 323), (.int 93 0), (.int 0 0), (.ref 328), (.int 107 0), (.int 0 0), (.ref 335), (.int 109 0), (.int 0 0), (.ref 340), (.int 114 0), (.int 0 0), (.ref 345), (.int 117 0), (.int 0 0), (.ref 350), (.int 124 0), (.int 0 0), (.ref 357), (.int 130 0), (.int 0 0), (.ref 364), (.int 132 0), (.int 0 0), (.ref 369), (.int 136 0), (.int 0 0), (.ref 374), (.int 141 0), (.int 0 0), (.ref 381), (.int 155 0), (.int 0 0), (.ref 386), (.int 157 0), (.int 0 0), (.ref 391), (.int 159 0), (.int 0 0), (.ref 396), (.int 161 0), (.int 0 0), (.ref 403), (.int 175 0), (.int 0 0), (.ref 408), (.int 187 0), (.int 0 0), (.ref 413), (.int 198 0), (.int 0 0), (.ref 420), (.int 204 0), (.int 0 0), (.ref 425), (.int 208 0), (.int 0 0), (.ref 430), (.int 223 0), (.int 0 0), (.ref 435), (.int 235 0), (.int 0 0), (.ref 443), (.int 244 0), (.int 0 0), (.ref 468), (.int 248 0), (.int 0 0), (.ref 475), (.int 250 0), (.int 0 0), (.ref 482), (.int 254 0), (.int 0 0), (.ref 487), (.int 263 0), (.int 0 0), (.ref 493), (.int 279 0), (.int 0 0), (.ref 498), (.int 292 0), (.int 0 0), (.ref 505), (.int 302 0), (.int 0 0), (.ref 512), (.int 312 0), (.int 0 0), (.ref 519), (.int 326 0), (.int 0 0), (.ref 528), (.int 337 0), (.int 0 0), (.ref 537), (.int 353 0), (.int 0 0), (.ref 542), (.int 355 0), (.int 0 0), (.ref 549), (.int 372 0), (.int 0 0), (.ref 561), (.int 377 0), (.int 0 0), (.ref 582), (.int 527 0), (.int 0 0), (.ref 687), (.int 542 0), (.int 0 0), (.ref 698), (.int 551 0), (.int 0 0), (.ref 703), (.int 560 0), (.int 0 0), (.ref 710), (.int 562 0), (.int 0 0), (.ref 717), (.int 568 0), (.int 0 0), (.ref 724), (.int 581 0), (.int 0 0), (.ref 731), (.int 587 0), (.int 0 0), (.ref 738), (.int 600 0), (.int 0 0), (.ref 745), (.int 617 0), (.int 0 0), (.ref 754), (.int 621 0), (.int 0 0), (.ref 759), (.int 646 0), (.int 0 0), (.ref 764), (.int 650 0), (.int 0 0), (.ref 769), (.int 652 0), (.int 0 0), (.ref 776), (.int 661 0), (.int 0 0), (.ref 783), (.int 665 0), (.int 0 0), (.ref 790), (.int 701 0), (.int 0 0), (.ref 856), (.int 705 0), (.int 0 0), (.ref 863), (.int 707 0), (.int 0 0), (.ref 868), (.int 709 0), (.int 0 0), (.ref 875), (.int 714 0), (.int 0 0), (.ref 882), (.int 716 0), (.int 0 0), (.ref 889), (.int 723 0), (.int 0 0), (.ref 894), (.int 730 0), (.int 0 0), (.ref 899), (.int 732 0), (.int 0 0), (.ref 904), (.int 734 0), (.int 0 0), (.ref 909), (.int 739 0), (.int 0 0), (.ref 916), (.int 741 0), (.int 0 0), (.ref 921), (.int 745 0), (.int 0 0), (.ref 928), (.int 750 0), (.int 0 0), (.ref 935), (.int 752 0), (.int 0 0), (.ref 942), (.int 765 0), (.int 0 0), (.ref 947), (.int 774 0), (.int 0 0), (.ref 954), (.int 782 0), (.int 0 0), (.ref 959), (.int 788 0), (.int 0 0), (.ref 964), (.int 790 0), (.int 0 0), (.ref 971), (.int 796 0), (.int 0 0), (.ref 978), (.int 922 0), (.int 0 0), (.ref 1168), (.int 929 0), (.int 0 0), (.ref 1173), (.int 931 0), (.int 0 0), (.ref 1178), (.int 934 0), (.int 0 0), (.ref 1185), (.int 952 0), (.int 0 0), (.ref 1190), (.int 955 0), (.int 0 0), (.ref 1195), (.int 957 0), (.int 0 0), (.ref 1202), (.int 961 0), (.int 0 0), (.ref 1209), (.int 1094 0), (.int 0 0), (.ref 1419), (.int 1101 0), (.int 0 0), (.ref 1424), (.int 1106 0), (.int 0 0), (.ref 1431), (.int 1112 0), (.int 0 0), (.ref 1436), (.int 1116 0), (.int 0 0), (.ref 1443), (.int 1121 0), (.int 0 0), (.ref 1448), (.int 1123 0), (.int 0 0), (.ref 1453), (.int 1125 0), (.int 0 0), (.ref 1458), (.int 1127 0), (.int 0 0), (.ref 1463), (.int 1129 0), (.int 0 0), (.ref 1470), (.int 1239 0), (.int 0 0), (.ref 1626), (.int 1247 0), (.int 0 0), (.ref 1631), (.int 1257 0), (.int 0 0), (.ref 1638), (.int 1264 0), (.int 0 0), (.ref 1645), (.int 1272 0), (.int 0 0), (.ref 1650), (.int 1294 0), (.int 0 0), (.ref 1657), (.int 1302 0), (.int 0 0), (.ref 1664), (.int 1304 0), (.int 0 0), (.ref 1671), (.int 1306 0), (.int 0 0), (.ref 1676), (.int 1313 0), (.int 0 0), (.ref 1681), (.int 1318 0), (.int 0 0), (.ref 1686), (.int 1330 0), (.int 0 0), (.ref 1693), (.int 1335 0), (.int 0 0), (.ref 1698), (.int 1344 0), (.int 0 0), (.ref 1703), (.int 1347 0), (.int 0 0), (.ref 1708), (.int 1365 0), (.int 0 0), (.ref 1713), (.int 1377 0), (.int 0 0), (.ref 1720), (.int 1379 0), (.int 0 0), (.ref 1725), (.int 1383 0), (.int 0 0), (.ref 1732), (.int 1391 0), (.int 0 0), (.ref 1737), (.int 1394 0), (.int 0 0), (.ref 1742), (.int 1401 0), (.int 0 0), (.ref 1749), (.int 1422 0), (.int 0 0), (.ref 1756), (.int 1427 0), (.int 0 0), (.ref 1763), (.int 1439 0), (.int 0 0), (.ref 1770), (.int 1454 0), (.int 0 0), (.ref 1777), (.int 1459 0), (.int 0 0), (.ref 1784), (.int 1464 0), (.int 0 0), (.ref 1791), (.int 1472 0), (.int 0 0), (.ref 1798), (.int 1496 0), (.int 0 0), (.ref 1805), (.int 1498 0), (.int 0 0), (.ref 1812), (.int 1500 0), (.int 0 0), (.ref 1819), (.int 1510 0), (.int 0 0), (.ref 1824), (.int 1512 0), (.int 0 0), (.ref 1831), (.int 1523 0), (.int 0 0), (.ref 1836), (.int 1531 0), (.int 0 0), (.ref 1843), (.int 1542 0), (.int 0 0), (.ref 1848), (.int 1544 0), (.int 0 0), (.ref 1855), (.int 1556 0), (.int 0 0), (.ref 1862), (.int 1572 0), (.int 0 0), (.ref 1871), (.int 1677 0), (.int 0 0), (.ref 2070), (.int 1683 0), (.int 0 0), (.ref 2075), (.int 1687 0), (.int 0 0), (.ref 2080), (.int 1691 0), (.int 0 0), (.ref 2085), (.int 1697 0), (.int 0 0), (.ref 2090), (.int 1701 0), (.int 0 0), (.ref 2097), (.int 1703 0), (.int 0 0), (.ref 2104), (.int 1712 0), (.int 0 0), (.ref 2111), (.int 1715 0), (.int 0 0), (.ref 2118), (.int 1717 0), (.int 0 0), (.ref 2125), (.int 1719 0), (.int 0 0), (.ref 2133), (.int 1725 0), (.int 0 0), (.ref 2138), (.int 1728 0), (.int 0 0), (.ref 2145), (.int 1738 0), (.int 0 0), (.ref 2166), (.int 1746 0), (.int 0 0), (.ref 2173), (.int 1761 0), (.int 0 0), (.ref 2180), (.int 1771 0), (.int 0 0), (.ref 2187), (.int 1780 0), (.int 0 0), (.ref 2192), (.int 1782 0), (.int 0 0), (.ref 2199), (.int 1787 0), (.int 0 0), (.ref 2204), (.int 1795 0), (.int 0 0), (.ref 2209), (.int 1808 0), (.int 0 0), (.ref 2214), (.int 1819 0), (.int 0 0), (.ref 2219), (.int 1830 0), (.int 0 0), (.ref 2224), (.int 1839 0), (.int 0 0), (.ref 2231), (.int 1850 0), (.int 0 0), (.ref 2238), (.int 1855 0), (.int 0 0), (.ref 2245), (.int 1860 0), (.int 0 0), (.ref 2252), (.int 1866 0), (.int 0 0), (.ref 2259)]), #[]⟩, ⟨(.type "code"), none, (.fields #[(.str ⟨#[60, 109, 111, 100, 117, 108, 101, 62]⟩ 182), (.str ⟨#[60, 109, 111, 100, 117, 108, 101, 62]⟩ 183), (.str ⟨#[47, 99, 108, 97, 105, 109, 47, 99, 117, 116, 46, 112, 121]⟩ 184), (.int 1 0), (.int 0 0), (.int 0 0), (.int 0 0), (.int 0 0), (.ref 11), (.bool false), (.int 181 0), (.ref 12), .none, .none, .none, .none, (.int 185 0), (.int 1 0), (.str ⟨#[47, 99, 108, 97, 105, 109, 47, 99, 117, 116, 46, 112, 121]⟩ 186)]), #[]⟩, ⟨(.type "frame"), none, .plain, #[(some (.ref 13)), (some (.ref 3)), (some (.ref 3)), none, (some (.str ⟨#[95, 95, 109, 97, 105, 110, 95, 95]⟩ 164)), none, (some (.ref 0))]⟩]
def O13 : List Nat := [29, 30, 31, 32, 38, 49, 50, 51, 52, 53, 197, 208, 209, 210, 211, 212, 281, 292, 293, 294, 295, 296, 437, 438, 439, 443, 444, 445, 468, 469, 475, 476, 521, 522, 528, 529, 542, 543, 549, 550, 769, 770, 783, 784, 792, 793, 794, 798, 799, 805, 806, 808, 815, 816, 817, 823, 824, 830, 831, 837, 838, 844, 845, 846, 847, 848, 849, 850, 875, 876, 882, 883, 889, 890, 1638, 1639, 1664, 1665, 1671, 1672, 1676, 1677, 1686, 1687, 1693, 1694, 1708, 1709, 1805, 1806]
def A13 : List Nat := [1843, 1844, 1848, 1849, 1873, 1877, 1878, 1884, 1885, 1887, 1889, 1895, 1896, 1902, 1903, 1909, 1910, 1916, 1917, 1918, 1924, 1925, 1931, 1932, 1938, 1939, 1945, 1946, 1952, 1953, 1959, 1960, 1966, 1967, 1973, 1974, 1980, 1981, 1987, 1988, 1994, 1995, 2001, 2002, 2008, 2009, 2015, 2016, 2022, 2023, 2029, 2030, 2036, 2037, 2043, 2044, 2050, 2051, 2052, 2058, 2059, 2060, 2061, 2062, 2063, 2064, 2090, 2091, 2152, 2153, 2154, 2155, 2156, 2157, 2158, 2192, 2193]
def G13 (p : Program) (w : World) : List Obj := [⟨(.type "code"), none, (.fields #[(.str ⟨#[118, 97, 108, 117, 101, 95, 114, 111, 119, 115]⟩ 2866), (.str ⟨#[118, 97, 108, 117, 101, 95, 114, 111, 119, 115]⟩ 2867), (.str ⟨#[47, 99, 108, 97, 105, 109, 47, 99, 117, 116, 46, 112, 121]⟩ 2868), (.int 1531 0), (.int 3 0), (.int 0 0), (.int 0 0), (.int 3 0), (.ref 1838), (.bool true), (.int 181 0), (.ref 1839), .none, (.ref 1840), (.ref 1841), (.ref 1842), (.int 2878 0), (.int 1531 0), (.str ⟨#[47, 99, 108, 97, 105, 109, 47, 99, 117, 116, 46, 112, 121]⟩ 2879)]), #[]⟩,
  ⟨(.type "function"), none, (.func (fnX ⟨#[118, 97, 108, 117, 101, 95, 114, 111, 119, 115]⟩ ⟨#[118, 97, 108, 117, 101, 95, 114, 111, 119, 115]⟩ (stA p 183) [] .none .none .none (.str ⟨#[101, 118, 101, 114, 121, 110, 97, 109, 101, 46, 115, 116, 114, 101, 116, 99, 104, 101, 115]⟩ 2806) none (.ref 1843) .none)), #[]⟩,
  ⟨(.type "code"), none, (.fields #[(.str ⟨#[118, 97, 108, 117, 101, 115]⟩ 2881), (.str ⟨#[118, 97, 108, 117, 101, 115]⟩ 2882), (.str ⟨#[47, 99, 108, 97, 105, 109, 47, 99, 117, 116, 46, 112, 121]⟩ 2883), (.int 1542 0), (.int 3 0), (.int 0 0), (.int 0 0), (.int 3 0), (.ref 1845), (.bool true), (.int 181 0), (.ref 1846), .none, .none, .none, (.ref 1847), (.int 2884 0), (.int 1542 0), (.str ⟨#[47, 99, 108, 97, 105, 109, 47, 99, 117, 116, 46, 112, 121]⟩ 2885)]), #[]⟩,
  ⟨(.type "function"), none, (.func (fnX ⟨#[118, 97, 108, 117, 101, 115]⟩ ⟨#[118, 97, 108, 117, 101, 115]⟩ (stA p 184) [] .none .none .none (.str ⟨#[101, 118, 101, 114, 121, 110, 97, 109, 101, 46, 115, 116, 114, 101, 116, 99, 104, 101, 115]⟩ 2806) none (.ref 1848) .none)), #[]⟩,
  ⟨(.type "tuple"), none, (.seq #[.none] 0), #[]⟩,
  ⟨(.type "code"), none, (.fields #[(.str ⟨#[95, 95, 105, 110, 105, 116, 95, 95]⟩ 2940), (.str ⟨#[70, 97, 109, 105, 108, 121, 46, 95, 95, 105, 110, 105, 116, 95, 95]⟩ 2941), (.str ⟨#[47, 99, 108, 97, 105, 109, 47, 99, 117, 116, 46, 112, 121]⟩ 2942), (.int 1574 0), (.int 4 0), (.int 0 0), (.int 0 0), (.int 3 0), (.ref 1874), (.bool true), (.int 181 0), (.ref 1875), .none, .none, .none, (.ref 1876), (.int 2943 0), (.int 1574 0), (.str ⟨#[47, 99, 108, 97, 105, 109, 47, 99, 117, 116, 46, 112, 121]⟩ 2944)]), #[]⟩,
  ⟨(.type "function"), none, (.func (fnX ⟨#[95, 95, 105, 110, 105, 116, 95, 95]⟩ ⟨#[70, 97, 109, 105, 108, 121, 46, 95, 95, 105, 110, 105, 116, 95, 95]⟩ (kidA (stA p 191) 0) [] (.ref 1873) .none .none (.str ⟨#[101, 118, 101, 114, 121, 110, 97, 109, 101, 46, 102, 97, 109, 105, 108, 105, 101, 115]⟩ 2918) none (.ref 1877) .none)), #[]⟩,
  ⟨(.type "code"), none, (.fields #[(.str ⟨#[111, 102]⟩ 2946), (.str ⟨#[70, 97, 109, 105, 108, 121, 46, 111, 102]⟩ 2947), (.str ⟨#[47, 99, 108, 97, 105, 109, 47, 99, 117, 116, 46, 112, 121]⟩ 2948), (.int 1581 0), (.int 3 0), (.int 0 0), (.int 0 0), (.int 3 0), (.ref 1879), (.bool true), (.int 181 0), (.ref 1880), .none, (.ref 1881), (.ref 1882), (.ref 1883), (.int 2952 0), (.int 1581 0), (.str ⟨#[47, 99, 108, 97, 105, 109, 47, 99, 117, 116, 46, 112, 121]⟩ 2953)]), #[]⟩,
  ⟨(.type "function"), none, (.func (fnX ⟨#[111, 102]⟩ ⟨#[70, 97, 109, 105, 108, 121, 46, 111, 102]⟩ (kidA (stA p 191) 1) [] .none .none .none (.str ⟨#[101, 118, 101, 114, 121, 110, 97, 109, 101, 46, 102, 97, 109, 105, 108, 105, 101, 115]⟩ 2918) (some 1888) (.ref 1884) .none)), #[]⟩,
  ⟨(.type "classmethod"), (some 1886), (.fields #[(.ref 1885), (.bool false)]), #[]⟩,
  ⟨(.type "tuple"), none, (.seq #[(.int 200 2967)] 0), #[]⟩,
  ⟨(.type "code"), none, (.fields #[(.str ⟨#[95, 95, 99, 97, 108, 108, 95, 95]⟩ 2968), (.str ⟨#[70, 97, 109, 105, 108, 121, 46, 95, 95, 99, 97, 108, 108, 95, 95]⟩ 2969), (.str ⟨#[47, 99, 108, 97, 105, 109, 47, 99, 117, 116, 46, 112, 121]⟩ 2970), (.int 1585 0), (.int 3 0), (.int 0 0), (.int 0 0), (.int 3 0), (.ref 1890), (.bool true), (.int 181 0), (.ref 1891), .none, (.ref 1892), (.ref 1893), (.ref 1894), (.int 2974 0), (.int 1585 0), (.str ⟨#[47, 99, 108, 97, 105, 109, 47, 99, 117, 116, 46, 112, 121]⟩ 2975)]), #[]⟩,
  ⟨(.type "function"), none, (.func (fnX ⟨#[95, 95, 99, 97, 108, 108, 95, 95]⟩ ⟨#[70, 97, 109, 105, 108, 121, 46, 95, 95, 99, 97, 108, 108, 95, 95]⟩ (kidA (stA p 191) 2) [] (.ref 1889) .none .none (.str ⟨#[101, 118, 101, 114, 121, 110, 97, 109, 101, 46, 102, 97, 109, 105, 108, 105, 101, 115]⟩ 2918) none (.ref 1895) .none)), #[]⟩,
  ⟨(.type "code"), none, (.fields #[(.str ⟨#[99, 111, 117, 110, 116]⟩ 2977), (.str ⟨#[70, 97, 109, 105, 108, 121, 46, 99, 111, 117, 110, 116]⟩ 2978), (.str ⟨#[47, 99, 108, 97, 105, 109, 47, 99, 117, 116, 46, 112, 121]⟩ 2979), (.int 1588 0), (.int 2 0), (.int 0 0), (.int 0 0), (.int 3 0), (.ref 1897), (.bool true), (.int 181 0), (.ref 1898), .none, (.ref 1899), (.ref 1900), (.ref 1901), (.int 2982 0), (.int 1588 0), (.str ⟨#[47, 99, 108, 97, 105, 109, 47, 99, 117, 116, 46, 112, 121]⟩ 2983)]), #[]⟩,
  ⟨(.type "function"), none, (.func (fnX ⟨#[99, 111, 117, 110, 116]⟩ ⟨#[70, 97, 109, 105, 108, 121, 46, 99, 111, 117, 110, 116]⟩ (kidA (stA p 191) 3) [] .none .none .none (.str ⟨#[101, 118, 101, 114, 121, 110, 97, 109, 101, 46, 102, 97, 109, 105, 108, 105, 101, 115]⟩ 2918) none (.ref 1902) .none)), #[]⟩,
  ⟨(.type "code"), none, (.fields #[(.str ⟨#[104, 97, 115]⟩ 2985), (.str ⟨#[70, 97, 109, 105, 108, 121, 46, 104, 97, 115]⟩ 2986), (.str ⟨#[47, 99, 108, 97, 105, 109, 47, 99, 117, 116, 46, 112, 121]⟩ 2987), (.int 1591 0), (.int 3 0), (.int 0 0), (.int 0 0), (.int 3 0), (.ref 1904), (.bool true), (.int 181 0), (.ref 1905), .none, (.ref 1906), (.ref 1907), (.ref 1908), (.int 2992 0), (.int 1591 0), (.str ⟨#[47, 99, 108, 97, 105, 109, 47, 99, 117, 116, 46, 112, 121]⟩ 2993)]), #[]⟩,
  ⟨(.type "function"), none, (.func (fnX ⟨#[104, 97, 115]⟩ ⟨#[70, 97, 109, 105, 108, 121, 46, 104, 97, 115]⟩ (kidA (stA p 191) 4) [] .none .none .none (.str ⟨#[101, 118, 101, 114, 121, 110, 97, 109, 101, 46, 102, 97, 109, 105, 108, 105, 101, 115]⟩ 2918) none (.ref 1909) .none)), #[]⟩,
  ⟨(.type "code"), none, (.fields #[(.str ⟨#[115, 105, 122, 101, 115]⟩ 2995), (.str ⟨#[70, 97, 109, 105, 108, 121, 46, 115, 105, 122, 101, 115]⟩ 2996), (.str ⟨#[47, 99, 108, 97, 105, 109, 47, 99, 117, 116, 46, 112, 121]⟩ 2997), (.int 1597 0), (.int 1 0), (.int 0 0), (.int 0 0), (.int 3 0), (.ref 1911), (.bool true), (.int 181 0), (.ref 1912), .none, (.ref 1913), (.ref 1914), (.ref 1915), (.int 2999 0), (.int 1597 0), (.str ⟨#[47, 99, 108, 97, 105, 109, 47, 99, 117, 116, 46, 112, 121]⟩ 3000)]), #[]⟩,
  ⟨(.type "function"), none, (.func (fnX ⟨#[115, 105, 122, 101, 115]⟩ ⟨#[70, 97, 109, 105, 108, 121, 46, 115, 105, 122, 101, 115]⟩ (kidA (stA p 191) 5) [] .none .none .none (.str ⟨#[101, 118, 101, 114, 121, 110, 97, 109, 101, 46, 102, 97, 109, 105, 108, 105, 101, 115]⟩ 2918) none (.ref 1916) .none)), #[]⟩,
  ⟨(.type "property"), none, (.fields #[(.ref 1917), .none, .none, .none, (.str ⟨#[115, 105, 122, 101, 115]⟩ 3002), (.bool false)]), #[]⟩,
  ⟨(.type "code"), none, (.fields #[(.str ⟨#[115, 112, 97, 110]⟩ 3003), (.str ⟨#[70, 97, 109, 105, 108, 121, 46, 115, 112, 97, 110]⟩ 3004), (.str ⟨#[47, 99, 108, 97, 105, 109, 47, 99, 117, 116, 46, 112, 121]⟩ 3005), (.int 1601 0), (.int 1 0), (.int 0 0), (.int 0 0), (.int 3 0), (.ref 1919), (.bool true), (.int 181 0), (.ref 1920), .none, (.ref 1921), (.ref 1922), (.ref 1923), (.int 3007 0), (.int 1601 0), (.str ⟨#[47, 99, 108, 97, 105, 109, 47, 99, 117, 116, 46, 112, 121]⟩ 3008)]), #[]⟩,
  ⟨(.type "function"), none, (.func (fnX ⟨#[115, 112, 97, 110]⟩ ⟨#[70, 97, 109, 105, 108, 121, 46, 115, 112, 97, 110]⟩ (kidA (stA p 191) 6) [] .none .none .none (.str ⟨#[101, 118, 101, 114, 121, 110, 97, 109, 101, 46, 102, 97, 109, 105, 108, 105, 101, 115]⟩ 2918) none (.ref 1924) .none)), #[]⟩,
  ⟨(.type "code"), none, (.fields #[(.str ⟨#[95, 95, 98, 111, 111, 108, 95, 95]⟩ 3010), (.str ⟨#[70, 97, 109, 105, 108, 121, 46, 95, 95, 98, 111, 111, 108, 95, 95]⟩ 3011), (.str ⟨#[47, 99, 108, 97, 105, 109, 47, 99, 117, 116, 46, 112, 121]⟩ 3012), (.int 1604 0), (.int 1 0), (.int 0 0), (.int 0 0), (.int 3 0), (.ref 1926), (.bool true), (.int 181 0), (.ref 1927), .none, (.ref 1928), (.ref 1929), (.ref 1930), (.int 3014 0), (.int 1604 0), (.str ⟨#[47, 99, 108, 97, 105, 109, 47, 99, 117, 116, 46, 112, 121]⟩ 3015)]), #[]⟩,
  ⟨(.type "function"), none, (.func (fnX ⟨#[95, 95, 98, 111, 111, 108, 95, 95]⟩ ⟨#[70, 97, 109, 105, 108, 121, 46, 95, 95, 98, 111, 111, 108, 95, 95]⟩ (kidA (stA p 191) 7) [] .none .none .none (.str ⟨#[101, 118, 101, 114, 121, 110, 97, 109, 101, 46, 102, 97, 109, 105, 108, 105, 101, 115]⟩ 2918) none (.ref 1931) .none)), #[]⟩,
  ⟨(.type "code"), none, (.fields #[(.str ⟨#[95, 95, 111, 114, 95, 95]⟩ 3017), (.str ⟨#[70, 97, 109, 105, 108, 121, 46, 95, 95, 111, 114, 95, 95]⟩ 3018), (.str ⟨#[47, 99, 108, 97, 105, 109, 47, 99, 117, 116, 46, 112, 121]⟩ 3019), (.int 1607 0), (.int 2 0), (.int 0 0), (.int 0 0), (.int 3 0), (.ref 1933), (.bool true), (.int 181 0), (.ref 1934), .none, (.ref 1935), (.ref 1936), (.ref 1937), (.int 3022 0), (.int 1607 0), (.str ⟨#[47, 99, 108, 97, 105, 109, 47, 99, 117, 116, 46, 112, 121]⟩ 3023)]), #[]⟩,
  ⟨(.type "function"), none, (.func (fnX ⟨#[95, 95, 111, 114, 95, 95]⟩ ⟨#[70, 97, 109, 105, 108, 121, 46, 95, 95, 111, 114, 95, 95]⟩ (kidA (stA p 191) 8) [] .none .none .none (.str ⟨#[101, 118, 101, 114, 121, 110, 97, 109, 101, 46, 102, 97, 109, 105, 108, 105, 101, 115]⟩ 2918) none (.ref 1938) .none)), #[]⟩,
  ⟨(.type "code"), none, (.fields #[(.str ⟨#[95, 95, 97, 110, 100, 95, 95]⟩ 3025), (.str ⟨#[70, 97, 109, 105, 108, 121, 46, 95, 95, 97, 110, 100, 95, 95]⟩ 3026), (.str ⟨#[47, 99, 108, 97, 105, 109, 47, 99, 117, 116, 46, 112, 121]⟩ 3027), (.int 1612 0), (.int 2 0), (.int 0 0), (.int 0 0), (.int 3 0), (.ref 1940), (.bool true), (.int 181 0), (.ref 1941), .none, (.ref 1942), (.ref 1943), (.ref 1944), (.int 3030 0), (.int 1612 0), (.str ⟨#[47, 99, 108, 97, 105, 109, 47, 99, 117, 116, 46, 112, 121]⟩ 3031)]), #[]⟩,
  ⟨(.type "function"), none, (.func (fnX ⟨#[95, 95, 97, 110, 100, 95, 95]⟩ ⟨#[70, 97, 109, 105, 108, 121, 46, 95, 95, 97, 110, 100, 95, 95]⟩ (kidA (stA p 191) 9) [] .none .none .none (.str ⟨#[101, 118, 101, 114, 121, 110, 97, 109, 101, 46, 102, 97, 109, 105, 108, 105, 101, 115]⟩ 2918) none (.ref 1945) .none)), #[]⟩,
  ⟨(.type "code"), none, (.fields #[(.str ⟨#[95, 95, 115, 117, 98, 95, 95]⟩ 3033), (.str ⟨#[70, 97, 109, 105, 108, 121, 46, 95, 95, 115, 117, 98, 95, 95]⟩ 3034), (.str ⟨#[47, 99, 108, 97, 105, 109, 47, 99, 117, 116, 46, 112, 121]⟩ 3035), (.int 1617 0), (.int 2 0), (.int 0 0), (.int 0 0), (.int 3 0), (.ref 1947), (.bool true), (.int 181 0), (.ref 1948), .none, (.ref 1949), (.ref 1950), (.ref 1951), (.int 3038 0), (.int 1617 0), (.str ⟨#[47, 99, 108, 97, 105, 109, 47, 99, 117, 116, 46, 112, 121]⟩ 3039)]), #[]⟩,
  ⟨(.type "function"), none, (.func (fnX ⟨#[95, 95, 115, 117, 98, 95, 95]⟩ ⟨#[70, 97, 109, 105, 108, 121, 46, 95, 95, 115, 117, 98, 95, 95]⟩ (kidA (stA p 191) 10) [] .none .none .none (.str ⟨#[101, 118, 101, 114, 121, 110, 97, 109, 101, 46, 102, 97, 109, 105, 108, 105, 101, 115]⟩ 2918) none (.ref 1952) .none)), #[]⟩,
  ⟨(.type "code"), none, (.fields #[(.str ⟨#[95, 95, 120, 111, 114, 95, 95]⟩ 3041), (.str ⟨#[70, 97, 109, 105, 108, 121, 46, 95, 95, 120, 111, 114, 95, 95]⟩ 3042), (.str ⟨#[47, 99, 108, 97, 105, 109, 47, 99, 117, 116, 46, 112, 121]⟩ 3043), (.int 1622 0), (.int 2 0), (.int 0 0), (.int 0 0), (.int 3 0), (.ref 1954), (.bool true), (.int 181 0), (.ref 1955), .none, (.ref 1956), (.ref 1957), (.ref 1958), (.int 3046 0), (.int 1622 0), (.str ⟨#[47, 99, 108, 97, 105, 109, 47, 99, 117, 116, 46, 112, 121]⟩ 3047)]), #[]⟩,
  ⟨(.type "function"), none, (.func (fnX ⟨#[95, 95, 120, 111, 114, 95, 95]⟩ ⟨#[70, 97, 109, 105, 108, 121, 46, 95, 95, 120, 111, 114, 95, 95]⟩ (kidA (stA p 191) 11) [] .none .none .none (.str ⟨#[101, 118, 101, 114, 121, 110, 97, 109, 101, 46, 102, 97, 109, 105, 108, 105, 101, 115]⟩ 2918) none (.ref 1959) .none)), #[]⟩,
  ⟨(.type "code"), none, (.fields #[(.str ⟨#[95, 95, 105, 111, 114, 95, 95]⟩ 3049), (.str ⟨#[70, 97, 109, 105, 108, 121, 46, 95, 95, 105, 111, 114, 95, 95]⟩ 3050), (.str ⟨#[47, 99, 108, 97, 105, 109, 47, 99, 117, 116, 46, 112, 121]⟩ 3051), (.int 1627 0), (.int 2 0), (.int 0 0), (.int 0 0), (.int 3 0), (.ref 1961), (.bool true), (.int 181 0), (.ref 1962), .none, (.ref 1963), (.ref 1964), (.ref 1965), (.int 3054 0), (.int 1627 0), (.str ⟨#[47, 99, 108, 97, 105, 109, 47, 99, 117, 116, 46, 112, 121]⟩ 3055)]), #[]⟩,
  ⟨(.type "function"), none, (.func (fnX ⟨#[95, 95, 105, 111, 114, 95, 95]⟩ ⟨#[70, 97, 109, 105, 108, 121, 46, 95, 95, 105, 111, 114, 95, 95]⟩ (kidA (stA p 191) 12) [] .none .none .none (.str ⟨#[101, 118, 101, 114, 121, 110, 97, 109, 101, 46, 102, 97, 109, 105, 108, 105, 101, 115]⟩ 2918) none (.ref 1966) .none)), #[]⟩,
  ⟨(.type "code"), none, (.fields #[(.str ⟨#[95, 95, 105, 97, 110, 100, 95, 95]⟩ 3057), (.str ⟨#[70, 97, 109, 105, 108, 121, 46, 95, 95, 105, 97, 110, 100, 95, 95]⟩ 3058), (.str ⟨#[47, 99, 108, 97, 105, 109, 47, 99, 117, 116, 46, 112, 121]⟩ 3059), (.int 1631 0), (.int 2 0), (.int 0 0), (.int 0 0), (.int 3 0), (.ref 1968), (.bool true), (.int 181 0), (.ref 1969), .none, (.ref 1970), (.ref 1971), (.ref 1972), (.int 3062 0), (.int 1631 0), (.str ⟨#[47, 99, 108, 97, 105, 109, 47, 99, 117, 116, 46, 112, 121]⟩ 3063)]), #[]⟩,
  ⟨(.type "function"), none, (.func (fnX ⟨#[95, 95, 105, 97, 110, 100, 95, 95]⟩ ⟨#[70, 97, 109, 105, 108, 121, 46, 95, 95, 105, 97, 110, 100, 95, 95]⟩ (kidA (stA p 191) 13) [] .none .none .none (.str ⟨#[101, 118, 101, 114, 121, 110, 97, 109, 101, 46, 102, 97, 109, 105, 108, 105, 101, 115]⟩ 2918) none (.ref 1973) .none)), #[]⟩,
  ⟨(.type "code"), none, (.fields #[(.str ⟨#[95, 95, 105, 115, 117, 98, 95, 95]⟩ 3065), (.str ⟨#[70, 97, 109, 105, 108, 121, 46, 95, 95, 105, 115, 117, 98, 95, 95]⟩ 3066), (.str ⟨#[47, 99, 108, 97, 105, 109, 47, 99, 117, 116, 46, 112, 121]⟩ 3067), (.int 1635 0), (.int 2 0), (.int 0 0), (.int 0 0), (.int 3 0), (.ref 1975), (.bool true), (.int 181 0), (.ref 1976), .none, (.ref 1977), (.ref 1978), (.ref 1979), (.int 3070 0), (.int 1635 0), (.str ⟨#[47, 99, 108, 97, 105, 109, 47, 99, 117, 116, 46, 112, 121]⟩ 3071)]), #[]⟩,
  ⟨(.type "function"), none, (.func (fnX ⟨#[95, 95, 105, 115, 117, 98, 95, 95]⟩ ⟨#[70, 97, 109, 105, 108, 121, 46, 95, 95, 105, 115, 117, 98, 95, 95]⟩ (kidA (stA p 191) 14) [] .none .none .none (.str ⟨#[101, 118, 101, 114, 121, 110, 97, 109, 101, 46, 102, 97, 109, 105, 108, 105, 101, 115]⟩ 2918) none (.ref 1980) .none)), #[]⟩,
  ⟨(.type "code"), none, (.fields #[(.str ⟨#[95, 95, 105, 120, 111, 114, 95, 95]⟩ 3073), (.str ⟨#[70, 97, 109, 105, 108, 121, 46, 95, 95, 105, 120, 111, 114, 95, 95]⟩ 3074), (.str ⟨#[47, 99, 108, 97, 105, 109, 47, 99, 117, 116, 46, 112, 121]⟩ 3075), (.int 1639 0), (.int 2 0), (.int 0 0), (.int 0 0), (.int 3 0), (.ref 1982), (.bool true), (.int 181 0), (.ref 1983), .none, (.ref 1984), (.ref 1985), (.ref 1986), (.int 3078 0), (.int 1639 0), (.str ⟨#[47, 99, 108, 97, 105, 109, 47, 99, 117, 116, 46, 112, 121]⟩ 3079)]), #[]⟩,
  ⟨(.type "function"), none, (.func (fnX ⟨#[95, 95, 105, 120, 111, 114, 95, 95]⟩ ⟨#[70, 97, 109, 105, 108, 121, 46, 95, 95, 105, 120, 111, 114, 95, 95]⟩ (kidA (stA p 191) 15) [] .none .none .none (.str ⟨#[101, 118, 101, 114, 121, 110, 97, 109, 101, 46, 102, 97, 109, 105, 108, 105, 101, 115]⟩ 2918) none (.ref 1987) .none)), #[]⟩,
  ⟨(.type "code"), none, (.fields #[(.str ⟨#[95, 95, 114, 111, 114, 95, 95]⟩ 3081), (.str ⟨#[70, 97, 109, 105, 108, 121, 46, 95, 95, 114, 111, 114, 95, 95]⟩ 3082), (.str ⟨#[47, 99, 108, 97, 105, 109, 47, 99, 117, 116, 46, 112, 121]⟩ 3083), (.int 1643 0), (.int 2 0), (.int 0 0), (.int 0 0), (.int 3 0), (.ref 1989), (.bool true), (.int 181 0), (.ref 1990), .none, (.ref 1991), (.ref 1992), (.ref 1993), (.int 3086 0), (.int 1643 0), (.str ⟨#[47, 99, 108, 97, 105, 109, 47, 99, 117, 116, 46, 112, 121]⟩ 3087)]), #[]⟩,
  ⟨(.type "function"), none, (.func (fnX ⟨#[95, 95, 114, 111, 114, 95, 95]⟩ ⟨#[70, 97, 109, 105, 108, 121, 46, 95, 95, 114, 111, 114, 95, 95]⟩ (kidA (stA p 191) 16) [] .none .none .none (.str ⟨#[101, 118, 101, 114, 121, 110, 97, 109, 101, 46, 102, 97, 109, 105, 108, 105, 101, 115]⟩ 2918) none (.ref 1994) .none)), #[]⟩,
  ⟨(.type "code"), none, (.fields #[(.str ⟨#[95, 95, 99, 111, 110, 116, 97, 105, 110, 115, 95, 95]⟩ 3089), (.str ⟨#[70, 97, 109, 105, 108, 121, 46, 95, 95, 99, 111, 110, 116, 97, 105, 110, 115, 95, 95]⟩ 3090), (.str ⟨#[47, 99, 108, 97, 105, 109, 47, 99, 117, 116, 46, 112, 121]⟩ 3091), (.int 1648 0), (.int 2 0), (.int 0 0), (.int 0 0), (.int 3 0), (.ref 1996), (.bool true), (.int 181 0), (.ref 1997), .none, (.ref 1998), (.ref 1999), (.ref 2000), (.int 3095 0), (.int 1648 0), (.str ⟨#[47, 99, 108, 97, 105, 109, 47, 99, 117, 116, 46, 112, 121]⟩ 3096)]), #[]⟩,
  ⟨(.type "function"), none, (.func (fnX ⟨#[95, 95, 99, 111, 110, 116, 97, 105, 110, 115, 95, 95]⟩ ⟨#[70, 97, 109, 105, 108, 121, 46, 95, 95, 99, 111, 110, 116, 97, 105, 110, 115, 95, 95]⟩ (kidA (stA p 191) 17) [] .none .none .none (.str ⟨#[101, 118, 101, 114, 121, 110, 97, 109, 101, 46, 102, 97, 109, 105, 108, 105, 101, 115]⟩ 2918) none (.ref 2001) .none)), #[]⟩,
  ⟨(.type "code"), none, (.fields #[(.str ⟨#[95, 95, 101, 113, 95, 95]⟩ 3098), (.str ⟨#[70, 97, 109, 105, 108, 121, 46, 95, 95, 101, 113, 95, 95]⟩ 3099), (.str ⟨#[47, 99, 108, 97, 105, 109, 47, 99, 117, 116, 46, 112, 121]⟩ 3100), (.int 1654 0), (.int 2 0), (.int 0 0), (.int 0 0), (.int 3 0), (.ref 2003), (.bool true), (.int 181 0), (.ref 2004), .none, (.ref 2005), (.ref 2006), (.ref 2007), (.int 3103 0), (.int 1654 0), (.str ⟨#[47, 99, 108, 97, 105, 109, 47, 99, 117, 116, 46, 112, 121]⟩ 3104)]), #[]⟩,
  ⟨(.type "function"), none, (.func (fnX ⟨#[95, 95, 101, 113, 95, 95]⟩ ⟨#[70, 97, 109, 105, 108, 121, 46, 95, 95, 101, 113, 95, 95]⟩ (kidA (stA p 191) 18) [] .none .none .none (.str ⟨#[101, 118, 101, 114, 121, 110, 97, 109, 101, 46, 102, 97, 109, 105, 108, 105, 101, 115]⟩ 2918) none (.ref 2008) .none)), #[]⟩,
  ⟨(.type "code"), none, (.fields #[(.str ⟨#[95, 95, 108, 101, 95, 95]⟩ 3106), (.str ⟨#[70, 97, 109, 105, 108, 121, 46, 95, 95, 108, 101, 95, 95]⟩ 3107), (.str ⟨#[47, 99, 108, 97, 105, 109, 47, 99, 117, 116, 46, 112, 121]⟩ 3108), (.int 1657 0), (.int 2 0), (.int 0 0), (.int 0 0), (.int 3 0), (.ref 2010), (.bool true), (.int 181 0), (.ref 2011), .none, (.ref 2012), (.ref 2013), (.ref 2014), (.int 3111 0), (.int 1657 0), (.str ⟨#[47, 99, 108, 97, 105, 109, 47, 99, 117, 116, 46, 112, 121]⟩ 3112)]), #[]⟩,
  ⟨(.type "function"), none, (.func (fnX ⟨#[95, 95, 108, 101, 95, 95]⟩ ⟨#[70, 97, 109, 105, 108, 121, 46, 95, 95, 108, 101, 95, 95]⟩ (kidA (stA p 191) 19) [] .none .none .none (.str ⟨#[101, 118, 101, 114, 121, 110, 97, 109, 101, 46, 102, 97, 109, 105, 108, 105, 101, 115]⟩ 2918) none (.ref 2015) .none)), #[]⟩,
  ⟨(.type "code"), none, (.fields #[(.str ⟨#[95, 95, 108, 116, 95, 95]⟩ 3114), (.str ⟨#[70, 97, 109, 105, 108, 121, 46, 95, 95, 108, 116, 95, 95]⟩ 3115), (.str ⟨#[47, 99, 108, 97, 105, 109, 47, 99, 117, 116, 46, 112, 121]⟩ 3116), (.int 1660 0), (.int 2 0), (.int 0 0), (.int 0 0), (.int 3 0), (.ref 2017), (.bool true), (.int 181 0), (.ref 2018), .none, (.ref 2019), (.ref 2020), (.ref 2021), (.int 3119 0), (.int 1660 0), (.str ⟨#[47, 99, 108, 97, 105, 109, 47, 99, 117, 116, 46, 112, 121]⟩ 3120)]), #[]⟩,
  ⟨(.type "function"), none, (.func (fnX ⟨#[95, 95, 108, 116, 95, 95]⟩ ⟨#[70, 97, 109, 105, 108, 121, 46, 95, 95, 108, 116, 95, 95]⟩ (kidA (stA p 191) 20) [] .none .none .none (.str ⟨#[101, 118, 101, 114, 121, 110, 97, 109, 101, 46, 102, 97, 109, 105, 108, 105, 101, 115]⟩ 2918) none (.ref 2022) .none)), #[]⟩,
  ⟨(.type "code"), none, (.fields #[(.str ⟨#[95, 95, 103, 101, 95, 95]⟩ 3122), (.str ⟨#[70, 97, 109, 105, 108, 121, 46, 95, 95, 103, 101, 95, 95]⟩ 3123), (.str ⟨#[47, 99, 108, 97, 105, 109, 47, 99, 117, 116, 46, 112, 121]⟩ 3124), (.int 1663 0), (.int 2 0), (.int 0 0), (.int 0 0), (.int 3 0), (.ref 2024), (.bool true), (.int 181 0), (.ref 2025), .none, (.ref 2026), (.ref 2027), (.ref 2028), (.int 3127 0), (.int 1663 0), (.str ⟨#[47, 99, 108, 97, 105, 109, 47, 99, 117, 116, 46, 112, 121]⟩ 3128)]), #[]⟩,
  ⟨(.type "function"), none, (.func (fnX ⟨#[95, 95, 103, 101, 95, 95]⟩ ⟨#[70, 97, 109, 105, 108, 121, 46, 95, 95, 103, 101, 95, 95]⟩ (kidA (stA p 191) 21) [] .none .none .none (.str ⟨#[101, 118, 101, 114, 121, 110, 97, 109, 101, 46, 102, 97, 109, 105, 108, 105, 101, 115]⟩ 2918) none (.ref 2029) .none)), #[]⟩,
  ⟨(.type "code"), none, (.fields #[(.str ⟨#[95, 95, 103, 116, 95, 95]⟩ 3130), (.str ⟨#[70, 97, 109, 105, 108, 121, 46, 95, 95, 103, 116, 95, 95]⟩ 3131), (.str ⟨#[47, 99, 108, 97, 105, 109, 47, 99, 117, 116, 46, 112, 121]⟩ 3132), (.int 1666 0), (.int 2 0), (.int 0 0), (.int 0 0), (.int 3 0), (.ref 2031), (.bool true), (.int 181 0), (.ref 2032), .none, (.ref 2033), (.ref 2034), (.ref 2035), (.int 3135 0), (.int 1666 0), (.str ⟨#[47, 99, 108, 97, 105, 109, 47, 99, 117, 116, 46, 112, 121]⟩ 3136)]), #[]⟩,
  ⟨(.type "function"), none, (.func (fnX ⟨#[95, 95, 103, 116, 95, 95]⟩ ⟨#[70, 97, 109, 105, 108, 121, 46, 95, 95, 103, 116, 95, 95]⟩ (kidA (stA p 191) 22) [] .none .none .none (.str ⟨#[101, 118, 101, 114, 121, 110, 97, 109, 101, 46, 102, 97, 109, 105, 108, 105, 101, 115]⟩ 2918) none (.ref 2036) .none)), #[]⟩,
  ⟨(.type "code"), none, (.fields #[(.str ⟨#[111, 110, 108, 121]⟩ 3138), (.str ⟨#[70, 97, 109, 105, 108, 121, 46, 111, 110, 108, 121]⟩ 3139), (.str ⟨#[47, 99, 108, 97, 105, 109, 47, 99, 117, 116, 46, 112, 121]⟩ 3140), (.int 1669 0), (.int 2 0), (.int 0 0), (.int 0 0), (.int 3 0), (.ref 2038), (.bool true), (.int 181 0), (.ref 2039), .none, (.ref 2040), (.ref 2041), (.ref 2042), (.int 3143 0), (.int 1669 0), (.str ⟨#[47, 99, 108, 97, 105, 109, 47, 99, 117, 116, 46, 112, 121]⟩ 3144)]), #[]⟩,
  ⟨(.type "function"), none, (.func (fnX ⟨#[111, 110, 108, 121]⟩ ⟨#[70, 97, 109, 105, 108, 121, 46, 111, 110, 108, 121]⟩ (kidA (stA p 191) 23) [] .none .none .none (.str ⟨#[101, 118, 101, 114, 121, 110, 97, 109, 101, 46, 102, 97, 109, 105, 108, 105, 101, 115]⟩ 2918) none (.ref 2043) .none)), #[]⟩,
  ⟨(.type "code"), none, (.fields #[(.str ⟨#[97, 116, 95, 107, 110, 111, 119, 110]⟩ 3146), (.str ⟨#[70, 97, 109, 105, 108, 121, 46, 97, 116, 95, 107, 110, 111, 119, 110]⟩ 3147), (.str ⟨#[47, 99, 108, 97, 105, 109, 47, 99, 117, 116, 46, 112, 121]⟩ 3148), (.int 1672 0), (.int 2 0), (.int 0 0), (.int 0 0), (.int 3 0), (.ref 2045), (.bool true), (.int 181 0), (.ref 2046), .none, (.ref 2047), (.ref 2048), (.ref 2049), (.int 3151 0), (.int 1672 0), (.str ⟨#[47, 99, 108, 97, 105, 109, 47, 99, 117, 116, 46, 112, 121]⟩ 3152)]), #[]⟩,
  ⟨(.type "function"), none, (.func (fnX ⟨#[97, 116, 95, 107, 110, 111, 119, 110]⟩ ⟨#[70, 97, 109, 105, 108, 121, 46, 97, 116, 95, 107, 110, 111, 119, 110]⟩ (kidA (stA p 191) 24) [] .none .none .none (.str ⟨#[101, 118, 101, 114, 121, 110, 97, 109, 101, 46, 102, 97, 109, 105, 108, 105, 101, 115]⟩ 2918) none (.ref 2050) .none)), #[]⟩,
  ⟨(.type "tuple"), none, (.seq #[(.int 200 3154)] 0), #[]⟩,
  ⟨(.type "code"), none, (.fields #[(.str ⟨#[97, 112, 97, 114, 116]⟩ 3155), (.str ⟨#[70, 97, 109, 105, 108, 121, 46, 97, 112, 97, 114, 116]⟩ 3156), (.str ⟨#[47, 99, 108, 97, 105, 109, 47, 99, 117, 116, 46, 112, 121]⟩ 3157), (.int 1675 0), (.int 3 0), (.int 0 0), (.int 0 0), (.int 3 0), (.ref 2053), (.bool true), (.int 181 0), (.ref 2054), .none, (.ref 2055), (.ref 2056), (.ref 2057), (.int 3161 0), (.int 1675 0), (.str ⟨#[47, 99, 108, 97, 105, 109, 47, 99, 117, 116, 46, 112, 121]⟩ 3162)]), #[]⟩,
  ⟨(.type "function"), none, (.func (fnX ⟨#[97, 112, 97, 114, 116]⟩ ⟨#[70, 97, 109, 105, 108, 121, 46, 97, 112, 97, 114, 116]⟩ (kidA (stA p 191) 25) [] (.ref 2052) .none .none (.str ⟨#[101, 118, 101, 114, 121, 110, 97, 109, 101, 46, 102, 97, 109, 105, 108, 105, 101, 115]⟩ 2918) none (.ref 2058) .none)), #[]⟩,
  ⟨(.type "tuple"), none, (.seq #[(.str ⟨#[107, 110, 111, 119, 110]⟩ 3164), (.str ⟨#[114, 111, 119, 115]⟩ 3165)] 0), #[]⟩,
  ⟨(.type "dict"), none, (.dict #[⟨PySem.PyData.keyHash w.params ⟨#[95, 95, 109, 111, 100, 117, 108, 101, 95, 95]⟩, (.str ⟨#[95, 95, 109, 111, 100, 117, 108, 101, 95, 95]⟩ 2935), (.str ⟨#[101, 118, 101, 114, 121, 110, 97, 109, 101, 46, 102, 97, 109, 105, 108, 105, 101, 115]⟩ 2918)⟩, ⟨PySem.PyData.keyHash w.params ⟨#[95, 95, 102, 105, 114, 115, 116, 108, 105, 110, 101, 110, 111, 95, 95]⟩, (.str ⟨#[95, 95, 102, 105, 114, 115, 116, 108, 105, 110, 101, 110, 111, 95, 95]⟩ 2939), (.int 1572 2938)⟩, ⟨PySem.PyData.keyHash w.params ⟨#[95, 95, 105, 110, 105, 116, 95, 95]⟩, (.str ⟨#[95, 95, 105, 110, 105, 116, 95, 95]⟩ 2945), (.ref 1878)⟩, ⟨PySem.PyData.keyHash w.params ⟨#[111, 102]⟩, (.str ⟨#[111, 102]⟩ 2966), (.ref 1887)⟩, ⟨PySem.PyData.keyHash w.params ⟨#[95, 95, 99, 97, 108, 108, 95, 95]⟩, (.str ⟨#[95, 95, 99, 97, 108, 108, 95, 95]⟩ 2976), (.ref 1896)⟩, ⟨PySem.PyData.keyHash w.params ⟨#[99, 111, 117, 110, 116]⟩, (.str ⟨#[99, 111, 117, 110, 116]⟩ 2984), (.ref 1903)⟩, ⟨PySem.PyData.keyHash w.params ⟨#[104, 97, 115]⟩, (.str ⟨#[104, 97, 115]⟩ 2994), (.ref 1910)⟩, ⟨PySem.PyData.keyHash w.params ⟨#[115, 105, 122, 101, 115]⟩, (.str ⟨#[115, 105, 122, 101, 115]⟩ 3002), (.ref 1918)⟩, ⟨PySem.PyData.keyHash w.params ⟨#[115, 112, 97, 110]⟩, (.str ⟨#[115, 112, 97, 110]⟩ 3009), (.ref 1925)⟩, ⟨PySem.PyData.keyHash w.params ⟨#[95, 95, 98, 111, 111, 108, 95, 95]⟩, (.str ⟨#[95, 95, 98, 111, 111, 108, 95, 95]⟩ 3016), (.ref 1932)⟩, ⟨PySem.PyData.keyHash w.params ⟨#[95, 95, 111, 114, 95, 95]⟩, (.str ⟨#[95, 95, 111, 114, 95, 95]⟩ 3024), (.ref 1939)⟩, ⟨PySem.PyData.keyHash w.params ⟨#[95, 95, 97, 110, 100, 95, 95]⟩, (.str ⟨#[95, 95, 97, 110, 100, 95, 95]⟩ 3032), (.ref 1946)⟩, ⟨PySem.PyData.keyHash w.params ⟨#[95, 95, 115, 117, 98, 95, 95]⟩, (.str ⟨#[95, 95, 115, 117, 98, 95, 95]⟩ 3040), (.ref 1953)⟩, ⟨PySem.PyData.keyHash w.params ⟨#[95, 95, 120, 111, 114, 95, 95]⟩, (.str ⟨#[95, 95, 120, 111, 114, 95, 95]⟩ 3048), (.ref 1960)⟩, ⟨PySem.PyData.keyHash w.params ⟨#[95, 95, 105, 111, 114, 95, 95]⟩, (.str ⟨#[95, 95, 105, 111, 114, 95, 95]⟩ 3056), (.ref 1967)⟩, ⟨PySem.PyData.keyHash w.params ⟨#[95, 95, 105, 97, 110, 100, 95, 95]⟩, (.str ⟨#[95, 95, 105, 97, 110, 100, 95, 95]⟩ 3064), (.ref 1974)⟩, ⟨PySem.PyData.keyHash w.params ⟨#[95, 95, 105, 115, 117, 98, 95, 95]⟩, (.str ⟨#[95, 95, 105, 115, 117, 98, 95, 95]⟩ 3072), (.ref 1981)⟩, ⟨PySem.PyData.keyHash w.params ⟨#[95, 95, 105, 120, 111, 114, 95, 95]⟩, (.str ⟨#[95, 95, 105, 120, 111, 114, 95, 95]⟩ 3080), (.ref 1988)⟩, ⟨PySem.PyData.keyHash w.params ⟨#[95, 95, 114, 111, 114, 95, 95]⟩, (.str ⟨#[95, 95, 114, 111, 114, 95, 95]⟩ 3088), (.ref 1995)⟩, ⟨PySem.PyData.keyHash w.params ⟨#[95, 95, 99, 111, 110, 116, 97, 105, 110, 115, 95, 95]⟩, (.str ⟨#[95, 95, 99, 111, 110, 116, 97, 105, 110, 115, 95, 95]⟩ 3097), (.ref 2002)⟩, ⟨PySem.PyData.keyHash w.params ⟨#[95, 95, 101, 113, 95, 95]⟩, (.str ⟨#[95, 95, 101, 113, 95, 95]⟩ 3105), (.ref 2009)⟩, ⟨PySem.PyData.keyHash w.params ⟨#[95, 95, 108, 101, 95, 95]⟩, (.str ⟨#[95, 95, 108, 101, 95, 95]⟩ 3113), (.ref 2016)⟩, ⟨PySem.PyData.keyHash w.params ⟨#[95, 95, 108, 116, 95, 95]⟩, (.str ⟨#[95, 95, 108, 116, 95, 95]⟩ 3121), (.ref 2023)⟩, ⟨PySem.PyData.keyHash w.params ⟨#[95, 95, 103, 101, 95, 95]⟩, (.str ⟨#[95, 95, 103, 101, 95, 95]⟩ 3129), (.ref 2030)⟩, ⟨PySem.PyData.keyHash w.params ⟨#[95, 95, 103, 116, 95, 95]⟩, (.str ⟨#[95, 95, 103, 116, 95, 95]⟩ 3137), (.ref 2037)⟩, ⟨PySem.PyData.keyHash w.params ⟨#[111, 110, 108, 121]⟩, (.str ⟨#[111, 110, 108, 121]⟩ 3145), (.ref 2044)⟩, ⟨PySem.PyData.keyHash w.params ⟨#[97, 116, 95, 107, 110, 111, 119, 110]⟩, (.str ⟨#[97, 116, 95, 107, 110, 111, 119, 110]⟩ 3153), (.ref 2051)⟩, ⟨PySem.PyData.keyHash w.params ⟨#[97, 112, 97, 114, 116]⟩, (.str ⟨#[97, 112, 97, 114, 116]⟩ 3163), (.ref 2059)⟩, ⟨PySem.PyData.keyHash w.params ⟨#[95, 95, 115, 116, 97, 116, 105, 99, 95, 97, 116, 116, 114, 105, 98, 117, 116, 101, 115, 95, 95]⟩, (.str ⟨#[95, 95, 115, 116, 97, 116, 105, 99, 95, 97, 116, 116, 114, 105, 98, 117, 116, 101, 115, 95, 95]⟩ 3166), (.ref 2060)⟩, ⟨PySem.PyData.keyHash w.params ⟨#[95, 95, 100, 105, 99, 116, 95, 95]⟩, (.str ⟨#[95, 95, 100, 105, 99, 116, 95, 95]⟩ 3168), (.ref 2063)⟩, ⟨PySem.PyData.keyHash w.params ⟨#[95, 95, 119, 101, 97, 107, 114, 101, 102, 95, 95]⟩, (.str ⟨#[95, 95, 119, 101, 97, 107, 114, 101, 102, 95, 95]⟩ 3170), (.ref 2064)⟩, ⟨PySem.PyData.keyHash w.params ⟨#[95, 95, 100, 111, 99, 95, 95]⟩, (.str ⟨#[95, 95, 100, 111, 99, 95, 95]⟩ 3171), .none⟩, ⟨PySem.PyData.keyHash w.params ⟨#[95, 95, 104, 97, 115, 104, 95, 95]⟩, (.str ⟨#[95, 95, 104, 97, 115, 104, 95, 95]⟩ 3172), .none⟩] 5), #[]⟩,
  ⟨(.type "type"), none, (.cls ⟨⟨#[70, 97, 109, 105, 108, 121]⟩, [(.type "object")], [(.ref 2062), (.type "object")], 2061, ⟨#[70, 97, 109, 105, 108, 121]⟩, true, [], [], false, none, false⟩), #[none, none, (some (.str ⟨#[70, 97, 109, 105, 108, 121]⟩ 2928)), (some (.str ⟨#[70, 97, 109, 105, 108, 121]⟩ 2936)), (some (.builtin "object.__new__")), (some (.bool true))]⟩,
  ⟨(.type "getset_descriptor"), none, (.fields #[(.str ⟨#[95, 95, 100, 105, 99, 116, 95, 95]⟩ 3167), (.ref 2062), (.builtin "function.__dict__"), (.builtin "function.__dict__#set")]), #[]⟩,
  ⟨(.type "getset_descriptor"), none, (.fields #[(.str ⟨#[95, 95, 119, 101, 97, 107, 114, 101, 102, 95, 95]⟩ 3169), (.ref 2062), (.builtin "ExceptionGroup.__weakref__"), .none]), #[]⟩,
  ⟨(.type "code"), none, (.fields #[(.str ⟨#[118, 97, 108, 117, 101, 95, 97, 116]⟩ 3199), (.str ⟨#[118, 97, 108, 117, 101, 95, 97, 116]⟩ 3200), (.str ⟨#[47, 99, 108, 97, 105, 109, 47, 99, 117, 116, 46, 112, 121]⟩ 3201), (.int 1697 0), (.int 2 0), (.int 0 0), (.int 0 0), (.int 3 0), (.ref 2087), (.bool true), (.int 181 0), (.ref 2088), .none, .none, .none, (.ref 2089), (.int 3202 0), (.int 1697 0), (.str ⟨#[47, 99, 108, 97, 105, 109, 47, 99, 117, 116, 46, 112, 121]⟩ 3203)]), #[]⟩,
  ⟨(.type "function"), none, (.func (fnX ⟨#[118, 97, 108, 117, 101, 95, 97, 116]⟩ ⟨#[118, 97, 108, 117, 101, 95, 97, 116]⟩ (stA p 196) [] .none .none .none (.str ⟨#[101, 118, 101, 114, 121, 110, 97, 109, 101, 46, 102, 97, 109, 105, 108, 105, 101, 115]⟩ 2918) none (.ref 2090) .none)), #[]⟩,
  ⟨(.type "code"), none, (.fields #[(.str ⟨#[95, 95, 105, 110, 105, 116, 95, 95]⟩ 3286), (.str ⟨#[83, 116, 97, 110, 100, 105, 110, 103, 46, 95, 95, 105, 110, 105, 116, 95, 95]⟩ 3287), (.str ⟨#[47, 99, 108, 97, 105, 109, 47, 99, 117, 116, 46, 112, 121]⟩ 3288), (.int 1730 0), (.int 3 0), (.int 0 0), (.int 0 0), (.int 3 0), (.ref 2147), (.bool true), (.int 181 0), (.ref 2148), .none, (.ref 2149), (.ref 2150), (.ref 2151), (.int 3292 0), (.int 1730 0), (.str ⟨#[47, 99, 108, 97, 105, 109, 47, 99, 117, 116, 46, 112, 121]⟩ 3293)]), #[]⟩,
  ⟨(.type "function"), none, (.func (fnX ⟨#[95, 95, 105, 110, 105, 116, 95, 95]⟩ ⟨#[83, 116, 97, 110, 100, 105, 110, 103, 46, 95, 95, 105, 110, 105, 116, 95, 95]⟩ (kidA (stA p 205) 0) [] .none .none .none (.str ⟨#[101, 118, 101, 114, 121, 110, 97, 109, 101, 46, 103, 117, 97, 114, 100, 115]⟩ 3272) none (.ref 2152) .none)), #[]⟩,
  ⟨(.type "tuple"), none, (.seq #[(.str ⟨#[103, 117, 97, 114, 100, 115]⟩ 3295), (.str ⟨#[107, 110, 111, 119, 110]⟩ 3296), (.str ⟨#[108, 105, 109, 105, 116]⟩ 3297), (.str ⟨#[112, 105, 101, 99, 101, 115]⟩ 3298), (.str ⟨#[114, 117, 108, 101, 115]⟩ 3299), (.str ⟨#[115, 116, 101, 112, 115]⟩ 3300), (.str ⟨#[116, 111, 108, 100]⟩ 3301)] 0), #[]⟩,
  ⟨(.type "dict"), none, (.dict #[⟨PySem.PyData.keyHash w.params ⟨#[95, 95, 109, 111, 100, 117, 108, 101, 95, 95]⟩, (.str ⟨#[95, 95, 109, 111, 100, 117, 108, 101, 95, 95]⟩ 3281), (.str ⟨#[101, 118, 101, 114, 121, 110, 97, 109, 101, 46, 103, 117, 97, 114, 100, 115]⟩ 3272)⟩, ⟨PySem.PyData.keyHash w.params ⟨#[95, 95, 102, 105, 114, 115, 116, 108, 105, 110, 101, 110, 111, 95, 95]⟩, (.str ⟨#[95, 95, 102, 105, 114, 115, 116, 108, 105, 110, 101, 110, 111, 95, 95]⟩ 3285), (.int 1728 3284)⟩, ⟨PySem.PyData.keyHash w.params ⟨#[95, 95, 105, 110, 105, 116, 95, 95]⟩, (.str ⟨#[95, 95, 105, 110, 105, 116, 95, 95]⟩ 3294), (.ref 2153)⟩, ⟨PySem.PyData.keyHash w.params ⟨#[95, 95, 115, 116, 97, 116, 105, 99, 95, 97, 116, 116, 114, 105, 98, 117, 116, 101, 115, 95, 95]⟩, (.str ⟨#[95, 95, 115, 116, 97, 116, 105, 99, 95, 97, 116, 116, 114, 105, 98, 117, 116, 101, 115, 95, 95]⟩ 3302), (.ref 2154)⟩, ⟨PySem.PyData.keyHash w.params ⟨#[95, 95, 100, 105, 99, 116, 95, 95]⟩, (.str ⟨#[95, 95, 100, 105, 99, 116, 95, 95]⟩ 3304), (.ref 2157)⟩, ⟨PySem.PyData.keyHash w.params ⟨#[95, 95, 119, 101, 97, 107, 114, 101, 102, 95, 95]⟩, (.str ⟨#[95, 95, 119, 101, 97, 107, 114, 101, 102, 95, 95]⟩ 3306), (.ref 2158)⟩, ⟨PySem.PyData.keyHash w.params ⟨#[95, 95, 100, 111, 99, 95, 95]⟩, (.str ⟨#[95, 95, 100, 111, 99, 95, 95]⟩ 3307), .none⟩] 4), #[]⟩,
  ⟨(.type "type"), none, (.cls ⟨⟨#[83, 116, 97, 110, 100, 105, 110, 103]⟩, [(.type "object")], [(.ref 2156), (.type "object")], 2155, ⟨#[83, 116, 97, 110, 100, 105, 110, 103]⟩, true, [], [], false, none, false⟩), #[none, none, (some (.str ⟨#[83, 116, 97, 110, 100, 105, 110, 103]⟩ 3274)), (some (.str ⟨#[83, 116, 97, 110, 100, 105, 110, 103]⟩ 3282)), (some (.builtin "object.__new__")), (some (.bool true))]⟩,
  ⟨(.type "getset_descriptor"), none, (.fields #[(.str ⟨#[95, 95, 100, 105, 99, 116, 95, 95]⟩ 3303), (.ref 2156), (.builtin "function.__dict__"), (.builtin "function.__dict__#set")]), #[]⟩,
  ⟨(.type "getset_descriptor"), none, (.fields #[(.str ⟨#[95, 95, 119, 101, 97, 107, 114, 101, 102, 95, 95]⟩ 3305), (.ref 2156), (.builtin "ExceptionGroup.__weakref__"), .none]), #[]⟩,
  ⟨(.type "code"), none, (.fields #[(.str ⟨#[114, 117, 108, 101, 100, 95, 110, 97, 109, 101, 115]⟩ 3349), (.str ⟨#[114, 117, 108, 101, 100, 95, 110, 97, 109, 101, 115]⟩ 3350), (.str ⟨#[47, 99, 108, 97, 105, 109, 47, 99, 117, 116, 46, 112, 121]⟩ 3351), (.int 1780 0), (.int 1 0), (.int 0 0), (.int 0 0), (.int 3 0), (.ref 2189), (.bool true), (.int 181 0), (.ref 2190), .none, .none, .none, (.ref 2191), (.int 3352 0), (.int 1780 0), (.str ⟨#[47, 99, 108, 97, 105, 109, 47, 99, 117, 116, 46, 112, 121]⟩ 3353)]), #[]⟩,
  ⟨(.type "function"), none, (.func (fnX ⟨#[114, 117, 108, 101, 100, 95, 110, 97, 109, 101, 115]⟩ ⟨#[114, 117, 108, 101, 100, 95, 110, 97, 109, 101, 115]⟩ (stA p 210) [] .none .none .none (.str ⟨#[101, 118, 101, 114, 121, 110, 97, 109, 101, 46, 103, 117, 97, 114, 100, 115]⟩ 3272) none (.ref 2192) .none)), #[]⟩]
theorem grp13 (w : World) (os : OsState) (g : Nat → Obj) : grpO (HandSHeadRun.stepQ (HandSHeadRun.denQ HandSHeadRun.tabQ) PySem.W.Fast.tw10313853756172224601 w) 2472 (O13 ++ A13) (boot_heap w.params).life boot_drawn 2866 os (F12 w ++ (List.range 1823).map fun i => g (15 + i)) (piecesOf (((((((((((((((((((((((((((PySem.W.Fast.tw10313853756172224601).main.body).drop 16)).drop 33)).drop 1)).drop 14)).drop 3)).drop 17)).drop 2)).drop 29)).drop 14)).drop 2)).drop 1)).drop 51)).take 39) (envA PySem.W.Fast.tw10313853756172224601 13 14) (codeA PySem.W.Fast.tw10313853756172224601 13 14) ⟨1523, 0, 1530, 16⟩ [topFrame ⟨0, 0, 0, 0⟩]) =
    some (.next, (codeA PySem.W.Fast.tw10313853756172224601 13 14), ⟨1866, 0, 1869, 14⟩, 2261, (boot_heap w.params).life, 0, boot_drawn, 3450, os, (F13 w).map some, (O13.map g ++ G13 PySem.W.Fast.tw10313853756172224601 w).map some) := by kernel_rfl
def F14 (w : World) : List Obj := [boot_o_0 w.params, boot_o_1 w.params, ⟨.none, none, (.dict #[⟨PySem.PyData.keyHash w.params ⟨#[116, 121, 112, 101, 46, 95, 95, 115, 117, 98, 99, 108, 97, 115, 115, 101, 115, 95, 95, 46, 69, 120, 99, 101, 112, 116, 105, 111, 110, 46, 48]⟩, (.str ⟨#[116, 121, 112, 101, 46, 95, 95, 115, 117, 98, 99, 108, 97, 115, 115, 101, 115, 95, 95, 46, 69, 120, 99, 101, 112, 116, 105, 111, 110, 46, 48]⟩ 1035), (.int 573 0)⟩, ⟨PySem.PyData.keyHash w.params ⟨#[116, 121, 112, 101, 46, 95, 95, 115, 117, 98, 99, 108, 97, 115, 115, 101, 115, 95, 95, 46, 69, 120, 99, 101, 112, 116, 105, 111, 110, 46, 110]⟩, (.str ⟨#[116, 121, 112, 101, 46, 95, 95, 115, 117, 98, 99, 108, 97, 115, 115, 101, 115, 95, 95, 46, 69, 120, 99, 101, 112, 116, 105, 111, 110, 46, 110]⟩ 1036), (.int 1 0)⟩] 2), #[]⟩, ⟨(.type "dict"), none, (.dict #[⟨PySem.PyData.keyHash w.params ⟨#[95, 95, 110, 97, 109, 101, 95, 95]⟩, (.str ⟨#[95, 95, 110, 97, 109, 101, 95, 95]⟩ 165), (.str ⟨#[108, 97, 119, 95, 101, 118, 101, 114, 121, 110, 97, 109, 101, 95, 107, 55, 51, 95, 119, 111, 114, 108, 100, 115, 95, 98, 101, 103, 105, 110, 95, 101, 109, 112, 116, 121]⟩ 3876)⟩, ⟨PySem.PyData.keyHash w.params ⟨#[95, 95, 100, 111, 99, 95, 95]⟩, (.str ⟨#[95, 95, 100, 111, 99, 95, 95]⟩ 166), .none⟩, ⟨PySem.PyData.keyHash w.params ⟨#[95, 95, 112, 97, 99, 107, 97, 103, 101, 95, 95]⟩, (.str ⟨#[95, 95, 112, 97, 99, 107, 97, 103, 101, 95, 95]⟩ 167), .none⟩, ⟨PySem.PyData.keyHash w.params ⟨#[95, 95, 108, 111, 97, 100, 101, 114, 95, 95]⟩, (.str ⟨#[95, 95, 108, 111, 97, 100, 101, 114, 95, 95]⟩ 168), (.builtin "__main__.__loader__#opaque")⟩, ⟨PySem.PyData.keyHash w.params ⟨#[95, 95, 115, 112, 101, 99, 95, 95]⟩, (.str ⟨#[95, 95, 115, 112, 101, 99, 95, 95]⟩ 169), .none⟩, ⟨PySem.PyData.keyHash w.params ⟨#[95, 95, 97, 110, 110, 111, 116, 97, 116, 105, 111, 110, 115, 95, 95]⟩, (.str ⟨#[95, 95, 97, 110, 110, 111, 116, 97, 116, 105, 111, 110, 115, 95, 95]⟩ 170), (.ref 6)⟩, ⟨PySem.PyData.keyHash w.params ⟨#[95, 95, 98, 117, 105, 108, 116, 105, 110, 115, 95, 95]⟩, (.str ⟨#[95, 95, 98, 117, 105, 108, 116, 105, 110, 115, 95, 95]⟩ 171), (.ref 4)⟩, ⟨PySem.PyData.keyHash w.params ⟨#[95, 95, 102, 105, 108, 101, 95, 95]⟩, (.str ⟨#[95, 95, 102, 105, 108, 101, 95, 95]⟩ 173), (.str ⟨#[47, 99, 108, 97, 105, 109, 47, 99, 117, 116, 46, 112, 121]⟩ 172)⟩, ⟨PySem.PyData.keyHash w.params ⟨#[95, 95, 99, 97, 99, 104, 101, 100, 95, 95]⟩, (.str ⟨#[95, 95, 99, 97, 99, 104, 101, 100, 95, 95]⟩ 174), .none⟩, ⟨PySem.PyData.keyHash w.params ⟨#[95, 119, 97, 108, 108]⟩, (.str ⟨#[95, 119, 97, 108, 108]⟩ 193), (.ref 21)⟩, ⟨PySem.PyData.keyHash w.params ⟨#[69, 118, 101, 114, 121, 110, 97, 109, 101, 69, 114, 114, 111, 114]⟩, (.str ⟨#[69, 118, 101, 114, 121, 110, 97, 109, 101, 69, 114, 114, 111, 114]⟩ 213), (.ref 31)⟩, ⟨PySem.PyData.keyHash w.params ⟨#[66, 97, 100, 80, 114, 111, 103, 114, 97, 109]⟩, (.str ⟨#[66, 97, 100, 80, 114, 111, 103, 114, 97, 109]⟩ 240), (.ref 53)⟩, ⟨PySem.PyData.keyHash w.params ⟨#[66, 97, 100, 84, 101, 120, 116]⟩, (.str ⟨#[66, 97, 100, 84, 101, 120, 116]⟩ 267), (.ref 74)⟩, ⟨PySem.PyData.keyHash w.params ⟨#[66, 97, 100, 86, 97, 108, 117, 101]⟩, (.str ⟨#[66, 97, 100, 86, 97, 108, 117, 101]⟩ 294), (.ref 95)⟩, ⟨PySem.PyData.keyHash w.params ⟨#[79, 116, 104, 101, 114, 83, 116, 111, 99, 107]⟩, (.str ⟨#[79, 116, 104, 101, 114, 83, 116, 111, 99, 107]⟩ 323), (.ref 116)⟩, ⟨PySem.PyData.keyHash w.params ⟨#[84, 111, 111, 77, 97, 110, 121]⟩, (.str ⟨#[84, 111, 111, 77, 97, 110, 121]⟩ 350), (.ref 137)⟩, ⟨PySem.PyData.keyHash w.params ⟨#[78, 111, 86, 97, 114, 105, 97, 98, 108, 101]⟩, (.str ⟨#[78, 111, 86, 97, 114, 105, 97, 98, 108, 101]⟩ 377), (.ref 158)⟩, ⟨PySem.PyData.keyHash w.params ⟨#[78, 111, 116, 69, 120, 97, 99, 116]⟩, (.str ⟨#[78, 111, 116, 69, 120, 97, 99, 116]⟩ 404), (.ref 179)⟩, ⟨PySem.PyData.keyHash w.params ⟨#[69, 109, 112, 116, 121, 83, 112, 97, 110]⟩, (.str ⟨#[69, 109, 112, 116, 121, 83, 112, 97, 110]⟩ 420), (.ref 191)⟩, ⟨PySem.PyData.keyHash w.params ⟨#[66, 97, 100, 78, 97, 109, 101]⟩, (.str ⟨#[66, 97, 100, 78, 97, 109, 101]⟩ 447), (.ref 212)⟩, ⟨PySem.PyData.keyHash w.params ⟨#[66, 97, 100, 82, 117, 108, 101]⟩, (.str ⟨#[66, 97, 100, 82, 117, 108, 101]⟩ 476), (.ref 233)⟩, ⟨PySem.PyData.keyHash w.params ⟨#[82, 101, 115, 116, 108, 101, 115, 115]⟩, (.str ⟨#[82, 101, 115, 116, 108, 101, 115, 115]⟩ 507), (.ref 254)⟩, ⟨PySem.PyData.keyHash w.params ⟨#[66, 114, 111, 107, 101, 110]⟩, (.str ⟨#[66, 114, 111, 107, 101, 110]⟩ 536), (.ref 275)⟩, ⟨PySem.PyData.keyHash w.params ⟨#[83, 101, 97, 109]⟩, (.str ⟨#[83, 101, 97, 109]⟩ 563), (.ref 296)⟩, ⟨PySem.PyData.keyHash w.params ⟨#[111, 99, 99, 117, 114, 114, 105, 110, 103]⟩, (.str ⟨#[111, 99, 99, 117, 114, 114, 105, 110, 103]⟩ 575), (.ref 305)⟩, ⟨PySem.PyData.keyHash w.params ⟨#[97, 115, 99, 101, 110, 100, 105, 110, 103]⟩, (.str ⟨#[97, 115, 99, 101, 110, 100, 105, 110, 103]⟩ 581), (.ref 310)⟩, ⟨PySem.PyData.keyHash w.params ⟨#[102, 114, 101, 101]⟩, (.str ⟨#[102, 114, 101, 101]⟩ 588), (.ref 317)⟩, ⟨PySem.PyData.keyHash w.params ⟨#[103, 114, 101, 97, 116, 101, 115, 116]⟩, (.str ⟨#[103, 114, 101, 97, 116, 101, 115, 116]⟩ 595), (.ref 324)⟩, ⟨PySem.PyData.keyHash w.params ⟨#[112, 117, 116]⟩, (.str ⟨#[112, 117, 116]⟩ 601), (.ref 329)⟩, ⟨PySem.PyData.keyHash w.params ⟨#[102, 114, 101, 115, 104]⟩, (.str ⟨#[102, 114, 101, 115, 104]⟩ 609), (.ref 336)⟩, ⟨PySem.PyData.keyHash w.params ⟨#[119, 97, 121, 115]⟩, (.str ⟨#[119, 97, 121, 115]⟩ 615), (.ref 341)⟩, ⟨PySem.PyData.keyHash w.params ⟨#[108, 111, 110, 103, 101, 114, 95, 119, 97, 121, 115]⟩, (.str ⟨#[108, 111, 110, 103, 101, 114, 95, 119, 97, 121, 115]⟩ 621), (.ref 346)⟩, ⟨PySem.PyData.keyHash w.params ⟨#[119, 105, 100, 101, 110, 101, 100]⟩, (.str ⟨#[119, 105, 100, 101, 110, 101, 100]⟩ 627), (.ref 351)⟩, ⟨PySem.PyData.keyHash w.params ⟨#[101, 110, 111, 117, 103, 104]⟩, (.str ⟨#[101, 110, 111, 117, 103, 104]⟩ 636), (.ref 358)⟩, ⟨PySem.PyData.keyHash w.params ⟨#[115, 116, 97, 110, 100, 115]⟩, (.str ⟨#[115, 116, 97, 110, 100, 115]⟩ 646), (.ref 365)⟩, ⟨PySem.PyData.keyHash w.params ⟨#[102, 105, 108, 108, 105, 110, 103, 115]⟩, (.str ⟨#[102, 105, 108, 108, 105, 110, 103, 115]⟩ 652), (.ref 370)⟩, ⟨PySem.PyData.keyHash w.params ⟨#[116, 111, 108, 100, 95, 116, 101, 114, 109, 115]⟩, (.str ⟨#[116, 111, 108, 100, 95, 116, 101, 114, 109, 115]⟩ 658), (.ref 375)⟩, ⟨PySem.PyData.keyHash w.params ⟨#[117, 110, 108, 105, 107, 101]⟩, (.str ⟨#[117, 110, 108, 105, 107, 101]⟩ 668), (.ref 382)⟩, ⟨PySem.PyData.keyHash w.params ⟨#[101, 113, 117, 97, 108, 95, 108, 105, 115, 116, 115]⟩, (.str ⟨#[101, 113, 117, 97, 108, 95, 108, 105, 115, 116, 115]⟩ 674), (.ref 387)⟩, ⟨PySem.PyData.keyHash w.params ⟨#[105, 115, 95, 102, 108, 97, 116]⟩, (.str ⟨#[105, 115, 95, 102, 108, 97, 116]⟩ 680), (.ref 392)⟩, ⟨PySem.PyData.keyHash w.params ⟨#[102, 108, 97, 116, 95, 114, 111, 119, 115]⟩, (.str ⟨#[102, 108, 97, 116, 95, 114, 111, 119, 115]⟩ 686), (.ref 397)⟩, ⟨PySem.PyData.keyHash w.params ⟨#[115, 97, 109, 101]⟩, (.str ⟨#[115, 97, 109, 101]⟩ 699), (.ref 404)⟩, ⟨PySem.PyData.keyHash w.params ⟨#[109, 101, 109, 98, 101, 114]⟩, (.str ⟨#[109, 101, 109, 98, 101, 114]⟩ 705), (.ref 409)⟩, ⟨PySem.PyData.keyHash w.params ⟨#[119, 105, 116, 104, 105, 110]⟩, (.str ⟨#[119, 105, 116, 104, 105, 110]⟩ 711), (.ref 414)⟩, ⟨PySem.PyData.keyHash w.params ⟨#[104, 97, 115, 95, 115, 101, 116]⟩, (.str ⟨#[104, 97, 115, 95, 115, 101, 116]⟩ 719), (.ref 421)⟩, ⟨PySem.PyData.keyHash w.params ⟨#[114, 111, 119, 95, 111, 118, 101, 114]⟩, (.str ⟨#[114, 111, 119, 95, 111, 118, 101, 114]⟩ 725), (.ref 426)⟩, ⟨PySem.PyData.keyHash w.params ⟨#[98, 117, 105, 108, 116]⟩, (.str ⟨#[98, 117, 105, 108, 116]⟩ 731), (.ref 431)⟩, ⟨PySem.PyData.keyHash w.params ⟨#[115, 104, 105, 102, 116, 101, 100]⟩, (.str ⟨#[115, 104, 105, 102, 116, 101, 100]⟩ 737), (.ref 436)⟩, ⟨PySem.PyData.keyHash w.params ⟨#[69, 77, 80, 84, 89]⟩, (.str ⟨#[69, 77, 80, 84, 89]⟩ 739), (.ref 439)⟩, ⟨PySem.PyData.keyHash w.params ⟨#[115, 116, 111, 99, 107]⟩, (.str ⟨#[115, 116, 111, 99, 107]⟩ 745), (.ref 444)⟩, ⟨PySem.PyData.keyHash w.params ⟨#[82, 69, 83, 69, 82, 86, 69, 68]⟩, (.str ⟨#[82, 69, 83, 69, 82, 86, 69, 68]⟩ 764), (.ref 445)⟩, ⟨PySem.PyData.keyHash w.params ⟨#[68, 69, 69, 80, 69, 83, 84, 95, 116, 114, 101, 101, 115]⟩, (.str ⟨#[68, 69, 69, 80, 69, 83, 84, 95, 116, 114, 101, 101, 115]⟩ 766), (.int 40 765)⟩, ⟨PySem.PyData.keyHash w.params ⟨#[76, 69, 86, 69, 76, 83]⟩, (.str ⟨#[76, 69, 86, 69, 76, 83]⟩ 768), (.int 10 767)⟩, ⟨PySem.PyData.keyHash w.params ⟨#[71, 82, 69, 65, 84, 69, 83, 84]⟩, (.str ⟨#[71, 82, 69, 65, 84, 69, 83, 84]⟩ 772), (.int 1000000000000000000000000000000000000000000000000000000000000 771)⟩, ⟨PySem.PyData.keyHash w.params ⟨#[83, 73, 71, 78, 83]⟩, (.str ⟨#[83, 73, 71, 78, 83]⟩ 779), (.ref 446)⟩, ⟨PySem.PyData.keyHash w.params ⟨#[80, 76, 65, 73, 78]⟩, (.str ⟨#[80, 76, 65, 73, 78]⟩ 848), (.ref 447)⟩, ⟨PySem.PyData.keyHash w.params ⟨#[105, 115, 95, 119, 111, 114, 100]⟩, (.str ⟨#[105, 115, 95, 119, 111, 114, 100]⟩ 854), (.ref 469)⟩, ⟨PySem.PyData.keyHash w.params ⟨#[105, 115, 95, 110, 97, 109, 101]⟩, (.str ⟨#[105, 115, 95, 110, 97, 109, 101]⟩ 861), (.ref 476)⟩, ⟨PySem.PyData.keyHash w.params ⟨#[112, 97, 116, 116, 101, 114, 110, 95, 118, 97, 114, 105, 97, 98, 108, 101, 115]⟩, (.str ⟨#[112, 97, 116, 116, 101, 114, 110, 95, 118, 97, 114, 105, 97, 98, 108, 101, 115]⟩ 868), (.ref 483)⟩, ⟨PySem.PyData.keyHash w.params ⟨#[103, 111, 111, 100, 95, 112, 97, 116, 116, 101, 114, 110]⟩, (.str ⟨#[103, 111, 111, 100, 95, 112, 97, 116, 116, 101, 114, 110]⟩ 874), (.ref 488)⟩, ⟨PySem.PyData.keyHash w.params ⟨#[103, 111, 111, 100]⟩, (.str ⟨#[103, 111, 111, 100]⟩ 881), (.ref 494)⟩, ⟨PySem.PyData.keyHash w.params ⟨#[103, 111, 111, 100, 95, 101, 120, 112, 114, 101, 115, 115, 105, 111, 110]⟩, (.str ⟨#[103, 111, 111, 100, 95, 101, 120, 112, 114, 101, 115, 115, 105, 111, 110]⟩ 887), (.ref 499)⟩, ⟨PySem.PyData.keyHash w.params ⟨#[103, 111, 111, 100, 95, 103, 97, 116, 104, 101, 114]⟩, (.str ⟨#[103, 111, 111, 100, 95, 103, 97, 116, 104, 101, 114]⟩ 898), (.ref 506)⟩, ⟨PySem.PyData.keyHash w.params ⟨#[103, 111, 111, 100, 95, 116, 101, 115, 116]⟩, (.str ⟨#[103, 111, 111, 100, 95, 116, 101, 115, 116]⟩ 908), (.ref 513)⟩, ⟨PySem.PyData.keyHash w.params ⟨#[103, 111, 111, 100, 95, 104, 101, 97, 100]⟩, (.str ⟨#[103, 111, 111, 100, 95, 104, 101, 97, 100]⟩ 918), (.ref 520)⟩, ⟨PySem.PyData.keyHash w.params ⟨#[119, 114, 111, 110, 103, 95, 112, 108, 97, 99, 101]⟩, (.str ⟨#[119, 114, 111, 110, 103, 95, 112, 108, 97, 99, 101]⟩ 935), (.ref 529)⟩, ⟨PySem.PyData.keyHash w.params ⟨#[102, 114, 101, 101, 95, 118, 97, 114, 105, 97, 98, 108, 101, 115]⟩, (.str ⟨#[102, 114, 101, 101, 95, 118, 97, 114, 105, 97, 98, 108, 101, 115]⟩ 947), (.ref 538)⟩, ⟨PySem.PyData.keyHash w.params ⟨#[106, 111, 105, 110, 101, 100]⟩, (.str ⟨#[106, 111, 105, 110, 101, 100]⟩ 953), (.ref 543)⟩, ⟨PySem.PyData.keyHash w.params ⟨#[115, 116, 97, 116, 101, 95, 118, 97, 114, 105, 97, 98, 108, 101, 115]⟩, (.str ⟨#[115, 116, 97, 116, 101, 95, 118, 97, 114, 105, 97, 98, 108, 101, 115]⟩ 963), (.ref 550)⟩, ⟨PySem.PyData.keyHash w.params ⟨#[86, 65, 76, 85, 69, 95, 83, 73, 71, 78, 83]⟩, (.str ⟨#[86, 65, 76, 85, 69, 95, 83, 73, 71, 78, 83]⟩ 978), (.ref 551)⟩, ⟨PySem.PyData.keyHash w.params ⟨#[84, 69, 83, 84, 95, 83, 73, 71, 78, 83]⟩, (.str ⟨#[84, 69, 83, 84, 95, 83, 73, 71, 78, 83]⟩ 988), (.ref 552)⟩, ⟨PySem.PyData.keyHash w.params ⟨#[78, 85, 77, 66, 69, 82, 95, 83, 73, 71, 78, 83]⟩, (.str ⟨#[78, 85, 77, 66, 69, 82, 95, 83, 73, 71, 78, 83]⟩ 998), (.ref 553)⟩, ⟨PySem.PyData.keyHash w.params ⟨#[67, 79, 77, 80, 65, 82, 69]⟩, (.str ⟨#[67, 79, 77, 80, 65, 82, 69]⟩ 1005), (.ref 554)⟩, ⟨PySem.PyData.keyHash w.params ⟨#[68, 69, 69, 80, 69, 83, 84, 95, 114, 101, 97, 100, 105, 110, 103]⟩, (.str ⟨#[68, 69, 69, 80, 69, 83, 84, 95, 114, 101, 97, 100, 105, 110, 103]⟩ 1007), (.int 40 1006)⟩, ⟨PySem.PyData.keyHash w.params ⟨#[85, 110, 114, 101, 97, 100]⟩, (.str ⟨#[85, 110, 114, 101, 97, 100]⟩ 1038), (.ref 573)⟩, ⟨PySem.PyData.keyHash w.params ⟨#[82, 101, 97, 100, 101, 114]⟩, (.str ⟨#[82, 101, 97, 100, 101, 114]⟩ 1193), (.ref 677)⟩, ⟨PySem.PyData.keyHash w.params ⟨#[98, 114, 97, 99, 107, 101, 116, 101, 100]⟩, (.str ⟨#[98, 114, 97, 99, 107, 101, 116, 101, 100]⟩ 1204), (.ref 688)⟩, ⟨PySem.PyData.keyHash w.params ⟨#[70, 73, 82, 83, 84]⟩, (.str ⟨#[70, 73, 82, 83, 84]⟩ 1208), (.str ⟨#[107, 110, 111, 119, 110]⟩ 1207)⟩, ⟨PySem.PyData.keyHash w.params ⟨#[65, 83, 83, 73, 71, 78, 95, 108, 105, 110, 101, 115]⟩, (.str ⟨#[65, 83, 83, 73, 71, 78, 95, 108, 105, 110, 101, 115]⟩ 1215), (.ref 692)⟩, ⟨PySem.PyData.keyHash w.params ⟨#[114, 101, 97, 100, 95, 108, 105, 110, 101, 115]⟩, (.str ⟨#[114, 101, 97, 100, 95, 108, 105, 110, 101, 115]⟩ 1226), (.ref 699)⟩, ⟨PySem.PyData.keyHash w.params ⟨#[114, 101, 97, 100, 95, 107, 110, 111, 119, 110]⟩, (.str ⟨#[114, 101, 97, 100, 95, 107, 110, 111, 119, 110]⟩ 1232), (.ref 704)⟩, ⟨PySem.PyData.keyHash w.params ⟨#[105, 110, 100, 101, 110, 116, 97, 116, 105, 111, 110]⟩, (.str ⟨#[105, 110, 100, 101, 110, 116, 97, 116, 105, 111, 110]⟩ 1239), (.ref 711)⟩, ⟨PySem.PyData.keyHash w.params ⟨#[114, 101, 97, 100, 95, 98, 108, 111, 99, 107]⟩, (.str ⟨#[114, 101, 97, 100, 95, 98, 108, 111, 99, 107]⟩ 1251), (.ref 718)⟩, ⟨PySem.PyData.keyHash w.params ⟨#[114, 101, 97, 100, 95, 115, 116, 97, 116, 101, 109, 101, 110, 116]⟩, (.str ⟨#[114, 101, 97, 100, 95, 115, 116, 97, 116, 101, 109, 101, 110, 116]⟩ 1267), (.ref 725)⟩, ⟨PySem.PyData.keyHash w.params ⟨#[114, 101, 97, 100, 95, 105, 110, 110, 101, 114]⟩, (.str ⟨#[114, 101, 97, 100, 95, 105, 110, 110, 101, 114]⟩ 1278), (.ref 732)⟩, ⟨PySem.PyData.keyHash w.params ⟨#[114, 101, 97, 100, 95, 104, 101, 97, 100]⟩, (.str ⟨#[114, 101, 97, 100, 95, 104, 101, 97, 100]⟩ 1294), (.ref 739)⟩, ⟨PySem.PyData.keyHash w.params ⟨#[104, 101, 97, 100, 95, 111, 102]⟩, (.str ⟨#[104, 101, 97, 100, 95, 111, 102]⟩ 1305), (.ref 746)⟩, ⟨PySem.PyData.keyHash w.params ⟨#[83, 73, 71, 78, 95, 79, 70]⟩, (.str ⟨#[83, 73, 71, 78, 95, 79, 70]⟩ 1344), (.ref 747)⟩, ⟨PySem.PyData.keyHash w.params ⟨#[65, 83, 83, 73, 71, 78, 95, 119, 114, 105, 116, 105, 110, 103]⟩, (.str ⟨#[65, 83, 83, 73, 71, 78, 95, 119, 114, 105, 116, 105, 110, 103]⟩ 1354), (.ref 748)⟩, ⟨PySem.PyData.keyHash w.params ⟨#[112, 97, 116, 116, 101, 114, 110, 95, 116, 101, 120, 116]⟩, (.str ⟨#[112, 97, 116, 116, 101, 114, 110, 95, 116, 101, 120, 116]⟩ 1361), (.ref 755)⟩, ⟨PySem.PyData.keyHash w.params ⟨#[116, 114, 101, 101, 95, 116, 101, 120, 116]⟩, (.str ⟨#[116, 114, 101, 101, 95, 116, 101, 120, 116]⟩ 1367), (.ref 760)⟩, ⟨PySem.PyData.keyHash w.params ⟨#[103, 97, 116, 104, 101, 114, 95, 116, 101, 120, 116]⟩, (.str ⟨#[103, 97, 116, 104, 101, 114, 95, 116, 101, 120, 116]⟩ 1373), (.ref 765)⟩, ⟨PySem.PyData.keyHash w.params ⟨#[115, 116, 97, 116, 101, 109, 101, 110, 116, 95, 108, 105, 110, 101, 115]⟩, (.str ⟨#[115, 116, 97, 116, 101, 109, 101, 110, 116, 95, 108, 105, 110, 101, 115]⟩ 1379), (.ref 770)⟩, ⟨PySem.PyData.keyHash w.params ⟨#[108, 105, 110, 101, 115, 95, 111, 102]⟩, (.str ⟨#[108, 105, 110, 101, 115, 95, 111, 102]⟩ 1390), (.ref 777)⟩, ⟨PySem.PyData.keyHash w.params ⟨#[112, 114, 111, 103, 114, 97, 109, 95, 116, 101, 120, 116]⟩, (.str ⟨#[112, 114, 111, 103, 114, 97, 109, 95, 116, 101, 120, 116]⟩ 1399), (.ref 784)⟩, ⟨PySem.PyData.keyHash w.params ⟨#[80, 114, 111, 103, 114, 97, 109]⟩, (.str ⟨#[80, 114, 111, 103, 114, 97, 109]⟩ 1493), (.ref 848)⟩, ⟨PySem.PyData.keyHash w.params ⟨#[99, 104, 97, 105, 110, 101, 100]⟩, (.str ⟨#[99, 104, 97, 105, 110, 101, 100]⟩ 1499), (.ref 857)⟩, ⟨PySem.PyData.keyHash w.params ⟨#[105, 115, 95, 119, 104, 111, 108, 101]⟩, (.str ⟨#[105, 115, 95, 119, 104, 111, 108, 101]⟩ 1508), (.ref 864)⟩, ⟨PySem.PyData.keyHash w.params ⟨#[119, 104, 111, 108, 101, 95, 108, 105, 115, 116]⟩, (.str ⟨#[119, 104, 111, 108, 101, 95, 108, 105, 115, 116]⟩ 1514), (.ref 869)⟩, ⟨PySem.PyData.keyHash w.params ⟨#[116, 114, 105, 109, 109, 101, 100]⟩, (.str ⟨#[116, 114, 105, 109, 109, 101, 100]⟩ 1522), (.ref 876)⟩, ⟨PySem.PyData.keyHash w.params ⟨#[119, 104, 111, 108, 101, 95, 114, 111, 119]⟩, (.str ⟨#[119, 104, 111, 108, 101, 95, 114, 111, 119]⟩ 1529), (.ref 883)⟩, ⟨PySem.PyData.keyHash w.params ⟨#[114, 111, 119, 95, 118, 97, 108, 117, 101]⟩, (.str ⟨#[114, 111, 119, 95, 118, 97, 108, 117, 101]⟩ 1541), (.ref 890)⟩, ⟨PySem.PyData.keyHash w.params ⟨#[100, 105, 102, 102, 101, 114, 101, 110, 99, 101, 115]⟩, (.str ⟨#[100, 105, 102, 102, 101, 114, 101, 110, 99, 101, 115]⟩ 1547), (.ref 895)⟩, ⟨PySem.PyData.keyHash w.params ⟨#[114, 111, 119, 95, 109, 111, 118, 101, 100]⟩, (.str ⟨#[114, 111, 119, 95, 109, 111, 118, 101, 100]⟩ 1553), (.ref 900)⟩, ⟨PySem.PyData.keyHash w.params ⟨#[110, 101, 103, 97, 116, 101, 100]⟩, (.str ⟨#[110, 101, 103, 97, 116, 101, 100]⟩ 1559), (.ref 905)⟩, ⟨PySem.PyData.keyHash w.params ⟨#[97, 100, 100, 95, 114, 111, 119, 115]⟩, (.str ⟨#[97, 100, 100, 95, 114, 111, 119, 115]⟩ 1565), (.ref 910)⟩, ⟨PySem.PyData.keyHash w.params ⟨#[116, 97, 107, 101, 95, 114, 111, 119, 115]⟩, (.str ⟨#[116, 97, 107, 101, 95, 114, 111, 119, 115]⟩ 1573), (.ref 917)⟩, ⟨PySem.PyData.keyHash w.params ⟨#[109, 117, 108, 116, 105, 112, 108, 121, 95, 114, 111, 119, 115]⟩, (.str ⟨#[109, 117, 108, 116, 105, 112, 108, 121, 95, 114, 111, 119, 115]⟩ 1579), (.ref 922)⟩, ⟨PySem.PyData.keyHash w.params ⟨#[102, 97, 108, 108, 105, 110, 103, 95, 114, 111, 119]⟩, (.str ⟨#[102, 97, 108, 108, 105, 110, 103, 95, 114, 111, 119]⟩ 1589), (.ref 929)⟩, ⟨PySem.PyData.keyHash w.params ⟨#[115, 105, 103, 110, 95, 111, 102]⟩, (.str ⟨#[115, 105, 103, 110, 95, 111, 102]⟩ 1596), (.ref 936)⟩, ⟨PySem.PyData.keyHash w.params ⟨#[102, 105, 114, 115, 116, 95, 102, 114, 111, 109]⟩, (.str ⟨#[102, 105, 114, 115, 116, 95, 102, 114, 111, 109]⟩ 1608), (.ref 943)⟩, ⟨PySem.PyData.keyHash w.params ⟨#[99, 117, 116, 95, 98, 121, 95, 115, 105, 103, 110]⟩, (.str ⟨#[99, 117, 116, 95, 98, 121, 95, 115, 105, 103, 110]⟩ 1614), (.ref 948)⟩, ⟨PySem.PyData.keyHash w.params ⟨#[106, 111, 105, 110, 101, 100, 95, 115, 105, 103, 110, 115]⟩, (.str ⟨#[106, 111, 105, 110, 101, 100, 95, 115, 105, 103, 110, 115]⟩ 1625), (.ref 955)⟩, ⟨PySem.PyData.keyHash w.params ⟨#[115, 105, 103, 110, 115, 95, 111, 102]⟩, (.str ⟨#[115, 105, 103, 110, 115, 95, 111, 102]⟩ 1631), (.ref 960)⟩, ⟨PySem.PyData.keyHash w.params ⟨#[108, 101, 97, 115, 116, 95, 115, 105, 103, 110]⟩, (.str ⟨#[108, 101, 97, 115, 116, 95, 115, 105, 103, 110]⟩ 1637), (.ref 965)⟩, ⟨PySem.PyData.keyHash w.params ⟨#[114, 111, 119, 95, 111, 102]⟩, (.str ⟨#[114, 111, 119, 95, 111, 102]⟩ 1644), (.ref 972)⟩, ⟨PySem.PyData.keyHash w.params ⟨#[83, 105, 122, 101]⟩, (.str ⟨#[83, 105, 122, 101]⟩ 1887), (.ref 1152)⟩, ⟨PySem.PyData.keyHash w.params ⟨#[85, 78, 73, 79, 78]⟩, (.str ⟨#[85, 78, 73, 79, 78]⟩ 1890), (.ref 1157)⟩, ⟨PySem.PyData.keyHash w.params ⟨#[77, 69, 69, 84]⟩, (.str ⟨#[77, 69, 69, 84]⟩ 1891), (.ref 1158)⟩, ⟨PySem.PyData.keyHash w.params ⟨#[87, 73, 84, 72, 79, 85, 84]⟩, (.str ⟨#[87, 73, 84, 72, 79, 85, 84]⟩ 1892), (.ref 1159)⟩, ⟨PySem.PyData.keyHash w.params ⟨#[69, 73, 84, 72, 69, 82]⟩, (.str ⟨#[69, 73, 84, 72, 69, 82]⟩ 1893), (.ref 1160)⟩, ⟨PySem.PyData.keyHash w.params ⟨#[69, 86, 69, 82, 89]⟩, (.str ⟨#[69, 86, 69, 82, 89]⟩ 1895), (.ref 1162)⟩, ⟨PySem.PyData.keyHash w.params ⟨#[105, 115, 95, 115, 116, 114, 101, 116, 99, 104]⟩, (.str ⟨#[105, 115, 95, 115, 116, 114, 101, 116, 99, 104]⟩ 1904), (.ref 1169)⟩, ⟨PySem.PyData.keyHash w.params ⟨#[116, 117, 114, 110, 105, 110, 103, 95, 112, 111, 105, 110, 116, 115]⟩, (.str ⟨#[116, 117, 114, 110, 105, 110, 103, 95, 112, 111, 105, 110, 116, 115]⟩ 1910), (.ref 1174)⟩, ⟨PySem.PyData.keyHash w.params ⟨#[112, 97, 105, 114, 101, 100]⟩, (.str ⟨#[112, 97, 105, 114, 101, 100]⟩ 1916), (.ref 1179)⟩, ⟨PySem.PyData.keyHash w.params ⟨#[99, 111, 109, 98, 105, 110, 101, 100]⟩, (.str ⟨#[99, 111, 109, 98, 105, 110, 101, 100]⟩ 1931), (.ref 1186)⟩, ⟨PySem.PyData.keyHash w.params ⟨#[115, 112, 97, 110, 95, 109, 111, 118, 101, 100]⟩, (.str ⟨#[115, 112, 97, 110, 95, 109, 111, 118, 101, 100]⟩ 1937), (.ref 1191)⟩, ⟨PySem.PyData.keyHash w.params ⟨#[108, 105, 101, 115, 95, 105, 110]⟩, (.str ⟨#[108, 105, 101, 115, 95, 105, 110]⟩ 1943), (.ref 1196)⟩, ⟨PySem.PyData.keyHash w.params ⟨#[115, 116, 114, 101, 116, 99, 104, 95, 116, 101, 120, 116]⟩, (.str ⟨#[115, 116, 114, 101, 116, 99, 104, 95, 116, 101, 120, 116]⟩ 1951), (.ref 1203)⟩, ⟨PySem.PyData.keyHash w.params ⟨#[83, 112, 97, 110]⟩, (.str ⟨#[83, 112, 97, 110]⟩ 2210), (.ref 1402)⟩, ⟨PySem.PyData.keyHash w.params ⟨#[72, 79, 76, 68, 83]⟩, (.str ⟨#[72, 79, 76, 68, 83]⟩ 2237), (.ref 1407)⟩, ⟨PySem.PyData.keyHash w.params ⟨#[105, 115, 95, 112, 105, 101, 99, 101]⟩, (.str ⟨#[105, 115, 95, 112, 105, 101, 99, 101]⟩ 2247), (.ref 1420)⟩, ⟨PySem.PyData.keyHash w.params ⟨#[112, 105, 101, 99, 101, 115, 95, 111, 102]⟩, (.str ⟨#[112, 105, 101, 99, 101, 115, 95, 111, 102]⟩ 2253), (.ref 1425)⟩, ⟨PySem.PyData.keyHash w.params ⟨#[112, 105, 101, 99, 101, 95, 97, 116]⟩, (.str ⟨#[112, 105, 101, 99, 101, 95, 97, 116]⟩ 2264), (.ref 1432)⟩, ⟨PySem.PyData.keyHash w.params ⟨#[108, 105, 110, 101, 100]⟩, (.str ⟨#[108, 105, 110, 101, 100]⟩ 2270), (.ref 1437)⟩, ⟨PySem.PyData.keyHash w.params ⟨#[97, 112, 97, 114, 116, 95, 115, 105, 103, 110, 115]⟩, (.str ⟨#[97, 112, 97, 114, 116, 95, 115, 105, 103, 110, 115]⟩ 2283), (.ref 1444)⟩, ⟨PySem.PyData.keyHash w.params ⟨#[108, 101, 97, 115, 116, 95, 97, 112, 97, 114, 116]⟩, (.str ⟨#[108, 101, 97, 115, 116, 95, 97, 112, 97, 114, 116]⟩ 2289), (.ref 1449)⟩, ⟨PySem.PyData.keyHash w.params ⟨#[97, 100, 100, 101, 100]⟩, (.str ⟨#[97, 100, 100, 101, 100]⟩ 2295), (.ref 1454)⟩, ⟨PySem.PyData.keyHash w.params ⟨#[109, 117, 108, 116, 105, 112, 108, 105, 101, 100]⟩, (.str ⟨#[109, 117, 108, 116, 105, 112, 108, 105, 101, 100]⟩ 2301), (.ref 1459)⟩, ⟨PySem.PyData.keyHash w.params ⟨#[111, 112, 112, 111, 115, 105, 116, 101]⟩, (.str ⟨#[111, 112, 112, 111, 115, 105, 116, 101]⟩ 2307), (.ref 1464)⟩, ⟨PySem.PyData.keyHash w.params ⟨#[84, 97, 108, 108, 121]⟩, (.str ⟨#[84, 97, 108, 108, 121]⟩ 2516), (.ref 1616)⟩, ⟨PySem.PyData.keyHash w.params ⟨#[102, 105, 98, 114, 101]⟩, (.str ⟨#[102, 105, 98, 114, 101]⟩ 2533), (.ref 1627)⟩, ⟨PySem.PyData.keyHash w.params ⟨#[111, 114, 98, 105, 116, 95, 114, 111, 119]⟩, (.str ⟨#[111, 114, 98, 105, 116, 95, 114, 111, 119]⟩ 2539), (.ref 1632)⟩, ⟨PySem.PyData.keyHash w.params ⟨#[99, 111, 117, 110, 116, 95, 114, 111, 119]⟩, (.str ⟨#[99, 111, 117, 110, 116, 95, 114, 111, 119]⟩ 2551), (.ref 1639)⟩, ⟨PySem.PyData.keyHash w.params ⟨#[99, 111, 109, 112, 97, 114, 101, 95, 114, 111, 119, 115]⟩, (.str ⟨#[99, 111, 109, 112, 97, 114, 101, 95, 114, 111, 119, 115]⟩ 2567), (.ref 1646)⟩, ⟨PySem.PyData.keyHash w.params ⟨#[119, 114, 105, 116, 116, 101, 110]⟩, (.str ⟨#[119, 114, 105, 116, 116, 101, 110]⟩ 2575), (.ref 1651)⟩, ⟨PySem.PyData.keyHash w.params ⟨#[99, 111, 108, 108, 101, 99, 116, 101, 100]⟩, (.str ⟨#[99, 111, 108, 108, 101, 99, 116, 101, 100]⟩ 2584), (.ref 1658)⟩, ⟨PySem.PyData.keyHash w.params ⟨#[110, 117, 109, 98, 101, 114]⟩, (.str ⟨#[110, 117, 109, 98, 101, 114]⟩ 2593), (.ref 1665)⟩, ⟨PySem.PyData.keyHash w.params ⟨#[99, 111, 117, 110, 116, 95, 97, 116]⟩, (.str ⟨#[99, 111, 117, 110, 116, 95, 97, 116]⟩ 2601), (.ref 1672)⟩, ⟨PySem.PyData.keyHash w.params ⟨#[116, 114, 101, 101, 95, 115, 105, 122, 101]⟩, (.str ⟨#[116, 114, 101, 101, 95, 115, 105, 122, 101]⟩ 2607), (.ref 1677)⟩, ⟨PySem.PyData.keyHash w.params ⟨#[97, 114, 114, 97, 110, 103, 101, 109, 101, 110, 116, 115]⟩, (.str ⟨#[97, 114, 114, 97, 110, 103, 101, 109, 101, 110, 116, 115]⟩ 2613), (.ref 1682)⟩, ⟨PySem.PyData.keyHash w.params ⟨#[115, 104, 111, 119, 110]⟩, (.str ⟨#[115, 104, 111, 119, 110]⟩ 2619), (.ref 1687)⟩, ⟨PySem.PyData.keyHash w.params ⟨#[115, 104, 111, 119, 110, 95, 119, 105, 116, 104, 105, 110]⟩, (.str ⟨#[115, 104, 111, 119, 110, 95, 119, 105, 116, 104, 105, 110]⟩ 2629), (.ref 1694)⟩, ⟨PySem.PyData.keyHash w.params ⟨#[116, 97, 107, 101, 110]⟩, (.str ⟨#[116, 97, 107, 101, 110]⟩ 2635), (.ref 1699)⟩, ⟨PySem.PyData.keyHash w.params ⟨#[104, 97, 110, 100, 95, 111, 102]⟩, (.str ⟨#[104, 97, 110, 100, 95, 111, 102]⟩ 2643), (.ref 1704)⟩, ⟨PySem.PyData.keyHash w.params ⟨#[118, 97, 108, 117, 101, 95, 111, 102]⟩, (.str ⟨#[118, 97, 108, 117, 101, 95, 111, 102]⟩ 2649), (.ref 1709)⟩, ⟨PySem.PyData.keyHash w.params ⟨#[109, 105, 120, 101, 100]⟩, (.str ⟨#[109, 105, 120, 101, 100]⟩ 2655), (.ref 1714)⟩, ⟨PySem.PyData.keyHash w.params ⟨#[109, 101, 109, 98, 101, 114, 115, 95, 104, 97, 110, 100]⟩, (.str ⟨#[109, 101, 109, 98, 101, 114, 115, 95, 104, 97, 110, 100]⟩ 2662), (.ref 1721)⟩, ⟨PySem.PyData.keyHash w.params ⟨#[106, 111, 105, 110, 95, 111, 102]⟩, (.str ⟨#[106, 111, 105, 110, 95, 111, 102]⟩ 2668), (.ref 1726)⟩, ⟨PySem.PyData.keyHash w.params ⟨#[98, 111, 117, 110, 100, 95, 98, 121]⟩, (.str ⟨#[98, 111, 117, 110, 100, 95, 98, 121]⟩ 2679), (.ref 1733)⟩, ⟨PySem.PyData.keyHash w.params ⟨#[99, 104, 111, 105, 99, 101, 115]⟩, (.str ⟨#[99, 104, 111, 105, 99, 101, 115]⟩ 2685), (.ref 1738)⟩, ⟨PySem.PyData.keyHash w.params ⟨#[103, 97, 116, 104, 101, 114, 101, 100]⟩, (.str ⟨#[103, 97, 116, 104, 101, 114, 101, 100]⟩ 2691), (.ref 1743)⟩, ⟨PySem.PyData.keyHash w.params ⟨#[104, 111, 108, 100, 115]⟩, (.str ⟨#[104, 111, 108, 100, 115]⟩ 2704), (.ref 1750)⟩, ⟨PySem.PyData.keyHash w.params ⟨#[113, 117, 97, 110, 116, 105, 102, 105, 101, 100]⟩, (.str ⟨#[113, 117, 97, 110, 116, 105, 102, 105, 101, 100]⟩ 2716), (.ref 1757)⟩, ⟨PySem.PyData.keyHash w.params ⟨#[110, 117, 109, 98, 101, 114, 95, 111, 102]⟩, (.str ⟨#[110, 117, 109, 98, 101, 114, 95, 111, 102]⟩ 2728), (.ref 1764)⟩, ⟨PySem.PyData.keyHash w.params ⟨#[111, 114, 100, 101, 114, 115, 95, 111, 102]⟩, (.str ⟨#[111, 114, 100, 101, 114, 115, 95, 111, 102]⟩ 2745), (.ref 1771)⟩, ⟨PySem.PyData.keyHash w.params ⟨#[101, 113, 117, 97, 108, 95, 115, 116, 97, 116, 101, 115]⟩, (.str ⟨#[101, 113, 117, 97, 108, 95, 115, 116, 97, 116, 101, 115]⟩ 2756), (.ref 1778)⟩, ⟨PySem.PyData.keyHash w.params ⟨#[101, 97, 114, 108, 105, 101, 114]⟩, (.str ⟨#[101, 97, 114, 108, 105, 101, 114]⟩ 2770), (.ref 1785)⟩, ⟨PySem.PyData.keyHash w.params ⟨#[109, 111, 118, 101, 100]⟩, (.str ⟨#[109, 111, 118, 101, 100]⟩ 2785), (.ref 1792)⟩, ⟨PySem.PyData.keyHash w.params ⟨#[114, 117, 110, 95, 111, 118, 101, 114]⟩, (.str ⟨#[114, 117, 110, 95, 111, 118, 101, 114]⟩ 2805), (.ref 1799)⟩, ⟨PySem.PyData.keyHash w.params ⟨#[115, 116, 97, 114, 116]⟩, (.str ⟨#[115, 116, 97, 114, 116]⟩ 2814), (.ref 1806)⟩, ⟨PySem.PyData.keyHash w.params ⟨#[104, 97, 108, 118, 101, 115]⟩, (.str ⟨#[104, 97, 108, 118, 101, 115]⟩ 2823), (.ref 1813)⟩, ⟨PySem.PyData.keyHash w.params ⟨#[101, 120, 101, 99, 117, 116, 101, 100]⟩, (.str ⟨#[101, 120, 101, 99, 117, 116, 101, 100]⟩ 2838), (.ref 1820)⟩, ⟨PySem.PyData.keyHash w.params ⟨#[101, 120, 101, 99, 117, 116, 101]⟩, (.str ⟨#[101, 120, 101, 99, 117, 116, 101]⟩ 2844), (.ref 1825)⟩, ⟨PySem.PyData.keyHash w.params ⟨#[116, 114, 117, 116, 104, 95, 114, 111, 119, 115]⟩, (.str ⟨#[116, 114, 117, 116, 104, 95, 114, 111, 119, 115]⟩ 2859), (.ref 1832)⟩, ⟨PySem.PyData.keyHash w.params ⟨#[116, 114, 117, 116, 104, 115]⟩, (.str ⟨#[116, 114, 117, 116, 104, 115]⟩ 2865), (.ref 1837)⟩, ⟨PySem.PyData.keyHash w.params ⟨#[118, 97, 108, 117, 101, 95, 114, 111, 119, 115]⟩, (.str ⟨#[118, 97, 108, 117, 101, 95, 114, 111, 119, 115]⟩ 2880), (.ref 1844)⟩, ⟨PySem.PyData.keyHash w.params ⟨#[118, 97, 108, 117, 101, 115]⟩, (.str ⟨#[118, 97, 108, 117, 101, 115]⟩ 2886), (.ref 1849)⟩, ⟨PySem.PyData.keyHash w.params ⟨#[99, 111, 117, 110, 116, 115]⟩, (.str ⟨#[99, 111, 117, 110, 116, 115]⟩ 2901), (.ref 1856)⟩, ⟨PySem.PyData.keyHash w.params ⟨#[119, 105, 116, 104, 95, 107, 110, 111, 119, 110]⟩, (.str ⟨#[119, 105, 116, 104, 95, 107, 110, 111, 119, 110]⟩ 2917), (.ref 1863)⟩, ⟨PySem.PyData.keyHash w.params ⟨#[82, 79, 85, 78, 68, 83]⟩, (.str ⟨#[82, 79, 85, 78, 68, 83]⟩ 2921), (.int 60 2920)⟩, ⟨PySem.PyData.keyHash w.params ⟨#[79, 78, 69]⟩, (.str ⟨#[79, 78, 69]⟩ 2924), (.ref 1864)⟩, ⟨PySem.PyData.keyHash w.params ⟨#[84, 87, 79]⟩, (.str ⟨#[84, 87, 79]⟩ 2927), (.ref 1865)⟩, ⟨PySem.PyData.keyHash w.params ⟨#[70, 97, 109, 105, 108, 121]⟩, (.str ⟨#[70, 97, 109, 105, 108, 121]⟩ 3174), (.ref 2062)⟩, ⟨PySem.PyData.keyHash w.params ⟨#[108, 111, 111, 107, 95, 97, 116, 95, 116, 114, 101, 101]⟩, (.str ⟨#[108, 111, 111, 107, 95, 97, 116, 95, 116, 114, 101, 101]⟩ 3180), (.ref 2071)⟩, ⟨PySem.PyData.keyHash w.params ⟨#[108, 111, 111, 107, 95, 97, 116, 95, 115, 116, 111, 99, 107]⟩, (.str ⟨#[108, 111, 111, 107, 95, 97, 116, 95, 115, 116, 111, 99, 107]⟩ 3186), (.ref 2076)⟩, ⟨PySem.PyData.keyHash w.params ⟨#[105, 115, 95, 115, 104, 111, 119, 110, 95, 97, 116]⟩, (.str ⟨#[105, 115, 95, 115, 104, 111, 119, 110, 95, 97, 116]⟩ 3192), (.ref 2081)⟩, ⟨PySem.PyData.keyHash w.params ⟨#[107, 110, 111, 119, 110, 95, 105, 110]⟩, (.str ⟨#[107, 110, 111, 119, 110, 95, 105, 110]⟩ 3198), (.ref 2086)⟩, ⟨PySem.PyData.keyHash w.params ⟨#[118, 97, 108, 117, 101, 95, 97, 116]⟩, (.str ⟨#[118, 97, 108, 117, 101, 95, 97, 116]⟩ 3204), (.ref 2091)⟩, ⟨PySem.PyData.keyHash w.params ⟨#[115, 105, 110, 103, 108, 101]⟩, (.str ⟨#[115, 105, 110, 103, 108, 101]⟩ 3211), (.ref 2098)⟩, ⟨PySem.PyData.keyHash w.params ⟨#[109, 101, 116]⟩, (.str ⟨#[109, 101, 116]⟩ 3228), (.ref 2105)⟩, ⟨PySem.PyData.keyHash w.params ⟨#[98, 108, 101, 110, 100, 101, 100, 95, 114, 111, 119, 115]⟩, (.str ⟨#[98, 108, 101, 110, 100, 101, 100, 95, 114, 111, 119, 115]⟩ 3237), (.ref 2112)⟩, ⟨PySem.PyData.keyHash w.params ⟨#[98, 108, 101, 110, 100, 101, 100]⟩, (.str ⟨#[98, 108, 101, 110, 100, 101, 100]⟩ 3246), (.ref 2119)⟩, ⟨PySem.PyData.keyHash w.params ⟨#[97, 108, 119, 97, 121, 115]⟩, (.str ⟨#[97, 108, 119, 97, 121, 115]⟩ 3255), (.ref 2126)⟩, ⟨PySem.PyData.keyHash w.params ⟨#[99, 111, 109, 112, 97, 114, 101, 100]⟩, (.str ⟨#[99, 111, 109, 112, 97, 114, 101, 100]⟩ 3265), (.ref 2134)⟩, ⟨PySem.PyData.keyHash w.params ⟨#[115, 112, 97, 110, 95, 111, 102]⟩, (.str ⟨#[115, 112, 97, 110, 95, 111, 102]⟩ 3271), (.ref 2139)⟩, ⟨PySem.PyData.keyHash w.params ⟨#[83, 116, 97, 110, 100, 105, 110, 103]⟩, (.str ⟨#[83, 116, 97, 110, 100, 105, 110, 103]⟩ 3309), (.ref 2156)⟩, ⟨PySem.PyData.keyHash w.params ⟨#[115, 117, 99, 99, 101, 115, 115, 111, 114]⟩, (.str ⟨#[115, 117, 99, 99, 101, 115, 115, 111, 114]⟩ 3317), (.ref 2167)⟩, ⟨PySem.PyData.keyHash w.params ⟨#[116, 114, 101, 101, 95, 119, 111, 114, 100, 115]⟩, (.str ⟨#[116, 114, 101, 101, 95, 119, 111, 114, 100, 115]⟩ 3328), (.ref 2174)⟩, ⟨PySem.PyData.keyHash w.params ⟨#[98, 111, 117, 110, 100, 95, 119, 111, 114, 100, 115]⟩, (.str ⟨#[98, 111, 117, 110, 100, 95, 119, 111, 114, 100, 115]⟩ 3338), (.ref 2181)⟩, ⟨PySem.PyData.keyHash w.params ⟨#[97, 115, 115, 105, 103, 110, 101, 100]⟩, (.str ⟨#[97, 115, 115, 105, 103, 110, 101, 100]⟩ 3348), (.ref 2188)⟩, ⟨PySem.PyData.keyHash w.params ⟨#[114, 117, 108, 101, 100, 95, 110, 97, 109, 101, 115]⟩, (.str ⟨#[114, 117, 108, 101, 100, 95, 110, 97, 109, 101, 115]⟩ 3354), (.ref 2193)⟩, ⟨PySem.PyData.keyHash w.params ⟨#[112, 108, 97, 99, 101, 95, 111, 102]⟩, (.str ⟨#[112, 108, 97, 99, 101, 95, 111, 102]⟩ 3364), (.ref 2200)⟩, ⟨PySem.PyData.keyHash w.params ⟨#[108, 111, 111, 107, 95, 97, 116, 95, 100, 101, 101, 100]⟩, (.str ⟨#[108, 111, 111, 107, 95, 97, 116, 95, 100, 101, 101, 100]⟩ 3370), (.ref 2205)⟩, ⟨PySem.PyData.keyHash w.params ⟨#[108, 111, 111, 107, 95, 97, 116, 95, 114, 117, 108, 101]⟩, (.str ⟨#[108, 111, 111, 107, 95, 97, 116, 95, 114, 117, 108, 101]⟩ 3376), (.ref 2210)⟩, ⟨PySem.PyData.keyHash w.params ⟨#[103, 111, 111, 100, 95, 99, 108, 97, 117, 115, 101]⟩, (.str ⟨#[103, 111, 111, 100, 95, 99, 108, 97, 117, 115, 101]⟩ 3382), (.ref 2215)⟩, ⟨PySem.PyData.keyHash w.params ⟨#[108, 111, 111, 107, 95, 97, 116, 95, 103, 117, 97, 114, 100]⟩, (.str ⟨#[108, 111, 111, 107, 95, 97, 116, 95, 103, 117, 97, 114, 100]⟩ 3388), (.ref 2220)⟩, ⟨PySem.PyData.keyHash w.params ⟨#[117, 115, 101, 100, 95, 119, 111, 114, 100, 115]⟩, (.str ⟨#[117, 115, 101, 100, 95, 119, 111, 114, 100, 115]⟩ 3394), (.ref 2225)⟩, ⟨PySem.PyData.keyHash w.params ⟨#[114, 101, 115, 116, 101, 100]⟩, (.str ⟨#[114, 101, 115, 116, 101, 100]⟩ 3411), (.ref 2232)⟩, ⟨PySem.PyData.keyHash w.params ⟨#[97, 102, 116, 101, 114, 95, 100, 101, 101, 100]⟩, (.str ⟨#[97, 102, 116, 101, 114, 95, 100, 101, 101, 100]⟩ 3420), (.ref 2239)⟩, ⟨PySem.PyData.keyHash w.params ⟨#[103, 97, 116, 104, 101, 114, 105, 110, 103]⟩, (.str ⟨#[103, 97, 116, 104, 101, 114, 105, 110, 103]⟩ 3429), (.ref 2246)⟩, ⟨PySem.PyData.keyHash w.params ⟨#[115, 101, 116, 116, 108, 101]⟩, (.str ⟨#[115, 101, 116, 116, 108, 101]⟩ 3441), (.ref 2253)⟩, ⟨PySem.PyData.keyHash w.params ⟨#[108, 101, 115, 115, 101, 114]⟩, (.str ⟨#[108, 101, 115, 115, 101, 114]⟩ 3449), (.ref 2260)⟩, ⟨PySem.PyData.keyHash w.params ⟨#[111, 118, 101, 114, 108, 97, 112, 115]⟩, (.str ⟨#[111, 118, 101, 114, 108, 97, 112, 115]⟩ 3466), (.ref 2267)⟩, ⟨PySem.PyData.keyHash w.params ⟨#[109, 111, 118, 101, 100, 95, 112, 105, 101, 99, 101, 115]⟩, (.str ⟨#[109, 111, 118, 101, 100, 95, 112, 105, 101, 99, 101, 115]⟩ 3472), (.ref 2272)⟩, ⟨PySem.PyData.keyHash w.params ⟨#[119, 105, 116, 104, 95, 112, 97, 115, 116]⟩, (.str ⟨#[119, 105, 116, 104, 95, 112, 97, 115, 116]⟩ 3489), (.ref 2279)⟩, ⟨PySem.PyData.keyHash w.params ⟨#[102, 97, 105, 108, 105, 110, 103]⟩, (.str ⟨#[102, 97, 105, 108, 105, 110, 103]⟩ 3495), (.ref 2284)⟩, ⟨PySem.PyData.keyHash w.params ⟨#[108, 111, 111, 107, 95, 97, 116, 95, 103, 117, 97, 114, 100, 115]⟩, (.str ⟨#[108, 111, 111, 107, 95, 97, 116, 95, 103, 117, 97, 114, 100, 115]⟩ 3505), (.ref 2291)⟩, ⟨PySem.PyData.keyHash w.params ⟨#[97, 108, 105, 107, 101, 95, 102, 97, 109, 105, 108, 105, 101, 115]⟩, (.str ⟨#[97, 108, 105, 107, 101, 95, 102, 97, 109, 105, 108, 105, 101, 115]⟩ 3511), (.ref 2296)⟩, ⟨PySem.PyData.keyHash w.params ⟨#[97, 108, 105, 107, 101, 95, 115, 116, 97, 110, 100, 105, 110, 103, 115]⟩, (.str ⟨#[97, 108, 105, 107, 101, 95, 115, 116, 97, 110, 100, 105, 110, 103, 115]⟩ 3519), (.ref 2303)⟩, ⟨PySem.PyData.keyHash w.params ⟨#[73, 78, 68, 69, 78, 84]⟩, (.str ⟨#[73, 78, 68, 69, 78, 84]⟩ 3523), (.str ⟨#[32, 32]⟩ 3522)⟩, ⟨PySem.PyData.keyHash w.params ⟨#[66, 69, 70, 79, 82, 69]⟩, (.str ⟨#[66, 69, 70, 79, 82, 69]⟩ 3525), (.str ⟨#[32, 98, 101, 102, 111, 114, 101, 32]⟩ 3524)⟩, ⟨PySem.PyData.keyHash w.params ⟨#[112, 97, 103, 101, 95, 116, 101, 120, 116]⟩, (.str ⟨#[112, 97, 103, 101, 95, 116, 101, 120, 116]⟩ 3535), (.ref 2310)⟩, ⟨PySem.PyData.keyHash w.params ⟨#[115, 116, 101, 112, 95, 108, 105, 110, 101, 115]⟩, (.str ⟨#[115, 116, 101, 112, 95, 108, 105, 110, 101, 115]⟩ 3541), (.ref 2315)⟩, ⟨PySem.PyData.keyHash w.params ⟨#[114, 101, 97, 100, 95, 115, 116, 101, 112]⟩, (.str ⟨#[114, 101, 97, 100, 95, 115, 116, 101, 112]⟩ 3547), (.ref 2320)⟩, ⟨PySem.PyData.keyHash w.params ⟨#[105, 115, 95, 104, 101, 97, 100]⟩, (.str ⟨#[105, 115, 95, 104, 101, 97, 100]⟩ 3555), (.ref 2327)⟩, ⟨PySem.PyData.keyHash w.params ⟨#[105, 115, 95, 108, 105, 109, 105, 116]⟩, (.str ⟨#[105, 115, 95, 108, 105, 109, 105, 116]⟩ 3561), (.ref 2332)⟩, ⟨PySem.PyData.keyHash w.params ⟨#[114, 101, 97, 100, 95, 100, 101, 101, 100]⟩, (.str ⟨#[114, 101, 97, 100, 95, 100, 101, 101, 100]⟩ 3567), (.ref 2337)⟩, ⟨PySem.PyData.keyHash w.params ⟨#[114, 101, 97, 100, 95, 116, 114, 101, 101]⟩, (.str ⟨#[114, 101, 97, 100, 95, 116, 114, 101, 101]⟩ 3579), (.ref 2344)⟩, ⟨PySem.PyData.keyHash w.params ⟨#[114, 101, 97, 100, 95, 103, 117, 97, 114, 100]⟩, (.str ⟨#[114, 101, 97, 100, 95, 103, 117, 97, 114, 100]⟩ 3593), (.ref 2351)⟩, ⟨PySem.PyData.keyHash w.params ⟨#[115, 101, 99, 111, 110, 100, 95, 108, 105, 110, 101]⟩, (.str ⟨#[115, 101, 99, 111, 110, 100, 95, 108, 105, 110, 101]⟩ 3602), (.ref 2358)⟩, ⟨PySem.PyData.keyHash w.params ⟨#[105, 115, 95, 112, 97, 105, 114]⟩, (.str ⟨#[105, 115, 95, 112, 97, 105, 114]⟩ 3612), (.ref 2365)⟩, ⟨PySem.PyData.keyHash w.params ⟨#[87, 111, 114, 108, 100]⟩, (.str ⟨#[87, 111, 114, 108, 100]⟩ 3865), (.ref 2552)⟩, ⟨PySem.PyData.keyHash w.params ⟨#[114, 101, 112, 101, 97, 116, 95, 115, 116, 101, 112]⟩, (.str ⟨#[114, 101, 112, 101, 97, 116, 95, 115, 116, 101, 112]⟩ 3875), (.ref 2563)⟩, ⟨PySem.PyData.keyHash w.params ⟨#[95, 108, 97, 119, 95, 112, 101, 110]⟩, (.str ⟨#[95, 108, 97, 119, 95, 112, 101, 110]⟩ 3884), (.ref 2570)⟩, ⟨PySem.PyData.keyHash w.params ⟨#[95, 108, 97, 119, 95, 100, 114, 97, 119]⟩, (.str ⟨#[95, 108, 97, 119, 95, 100, 114, 97, 119]⟩ 3897), (.ref 2577)⟩, ⟨PySem.PyData.keyHash w.params ⟨#[95, 108, 97, 119, 95, 112, 105, 99, 107]⟩, (.str ⟨#[95, 108, 97, 119, 95, 112, 105, 99, 107]⟩ 3905), (.ref 2584)⟩, ⟨PySem.PyData.keyHash w.params ⟨#[95, 108, 97, 119, 95, 115, 104, 117, 102, 102, 108, 101, 100]⟩, (.str ⟨#[95, 108, 97, 119, 95, 115, 104, 117, 102, 102, 108, 101, 100]⟩ 3915), (.ref 2591)⟩, ⟨PySem.PyData.keyHash w.params ⟨#[95, 108, 97, 119, 95, 119, 111, 114, 100, 115]⟩, (.str ⟨#[95, 108, 97, 119, 95, 119, 111, 114, 100, 115]⟩ 3921), (.ref 2596)⟩, ⟨PySem.PyData.keyHash w.params ⟨#[95, 108, 97, 119, 95, 101, 114, 114, 111, 114]⟩, (.str ⟨#[95, 108, 97, 119, 95, 101, 114, 114, 111, 114]⟩ 3930), (.ref 2603)⟩, ⟨PySem.PyData.keyHash w.params ⟨#[95, 108, 97, 119, 95, 105, 116, 101, 109, 95, 101, 114, 114, 111, 114]⟩, (.str ⟨#[95, 108, 97, 119, 95, 105, 116, 101, 109, 95, 101, 114, 114, 111, 114]⟩ 3941), (.ref 2610)⟩, ⟨PySem.PyData.keyHash w.params ⟨#[108, 97, 119]⟩, (.str ⟨#[108, 97, 119]⟩ 3947), (.ref 2615)⟩] 242), #[]⟩, boot_o_4 w.params, boot_o_5 w.params, boot_o_6 w.params, boot_o_7 w.params, boot_o_8 w.params, boot_o_9 w.params, boot_o_10 w.params, ⟨(.type "tuple"), none, (.seq #[] 0), #[]⟩, ⟨.none, none, (.fields #[(.int 1 0), (.int 0 0), (.ref 20), (.int 5 0), (.int 0 0), (.ref 27), (.int 7 0), (.int 0 0), (.ref 41), (.int 12 0), (.int 0 0), (.ref 62), (.int 17 0), (.int 0 0), (.ref 83), (.int 22 0), (.int 0 0), (.ref 104), (.int 28 0), (.int 0 0), (.ref 125), (.int 33 0), (.int 0 0), (.ref 146), (.int 38 0), (.int 0 0), (.ref 167), (.int 43 0), (.int 0 0), (.ref 187), (.int 45 0), (.int 0 0), (.ref 200), (.int 50 0), (.int 0 0), (.ref 221), (.int 56 0), (.int 0 0), (.ref 242), (.int 63 0), (.int 0 0), (.ref 263), (.int 69 0), (.int 0 0), (.ref 284), (.int 75 0), (.int 0 0), (.ref 304), (.int 87 0), (.int 0 0), (.ref 309), (.int 89 0), (.int 0 0), (.ref 316), (.int 91 0), (.int 0 0), (.ref 323), (.int 93 0), (.int 0 0), (.ref 328), (.int 107 0), (.int 0 0), (.ref 335), (.int 109 0), (.int 0 0), (.ref 340), (.int 114 0), (.int 0 0), (.ref 345), (.int 117 0), (.int 0 0), (.ref 350), (.int 124 0), (.int 0 0), (.ref 357), (.int 130 0), (.int 0 0), (.ref 364), (.int 132 0), (.int 0 0), (.ref 369), (.int 136 0), (.int 0 0), (.ref 374), (.int 141 0), (.int 0 0), (.ref 381), (.int 155 0), (.int 0 0), (.ref 386), (.int 157 0), (.int 0 0), (.ref 391), (.int 159 0), (.int 0 0), (.ref 396), (.int 161 0), (.int 0 0), (.ref 403), (.int 175 0), (.int 0 0), (.ref 408), (.int 187 0), (.int 0 0), (.ref 413), (.int 198 0), (.int 0 0), (.ref 420), (.int 204 0), (.int 0 0), (.ref 425), (.int 208 0), (.int 0 0), (.ref 430), (.int 223 0), (.int 0 0), (.ref 435), (.int 235 0), (.int 0 0), (.ref 443), (.int 244 0), (.int 0 0), (.ref 468), (.int 248 0), (.int 0 0), (.ref 475), (.int 250 0), (.int 0 0), (.ref 482), (.int 254 0), (.int 0 0), (.ref 487), (.int 263 0), (.int 0 0), (.ref 493), (.int 279 0), (.int 0 0), (.ref 498), (.int 292 0), (.int 0 0), (.ref 505), (.int 302 0), (.int 0 0), (.ref 512), (.int 312 0), (.int 0 0), (.ref 519), (.int 326 0), (.int 0 0), (.ref 528), (.int 337 0), (.int 0 0), (.ref 537), (.int 353 0), (.int 0 0), (.ref 542), (.int 355 0), (.int 0 0), (.ref 549), (.int 372 0), (.int 0 0), (.ref 561), (.int 377 0), (.int 0 0), (.ref 582), (.int 527 0), (.int 0 0), (.ref 687), (.int 542 0), (.int 0 0), (.ref 698), (.int 551 0), (.int 0 0), (.ref 703), (.int 560 0), (.int 0 0), (.ref 710), (.int 562 0), (.int 0 0), (.ref 717), (.int 568 0), (.int 0 0), (.ref 724), (.int 581 0), (.int 0 0), (.ref 731), (.int 587 0), (.int 0 0), (.ref 738), (.int 600 0), (.int 0 0), (.ref 745), (.int 617 0), (.int 0 0), (.ref 754), (.int 621 0), (.int 0 0), (.ref 759), (.int 646 0), (.int 0 0), (.ref 764), (.int 650 0), (.int 0 0), (.ref 769), (.int 652 0), (.int 0 0), (.ref 776), (.int 661 0), (.int 0 0), (.ref 783), (.int 665 0), (.int 0 0), (.ref 790), (.int 701 0), (.int 0 0), (.ref 856), (.int 705 0), (.int 0 0), (.ref 863), (.int 707 0), (.int 0 0), (.ref 868), (.int 709 0), (.int 0 0), (.ref 875), (.int 714 0), (.int 0 0), (.ref 882), (.int 716 0), (.int 0 0), (.ref 889), (.int 723 0), (.int 0 0), (.ref 894), (.int 730 0), (.int 0 0), (.ref 899), (.int 732 0), (.int 0 0), (.ref 904), (.int 734 0), (.int 0 0), (.ref 909), (.int 739 0), (.int 0 0), (.ref 916), (.int 741 0), (.int 0 0), (.ref 921), (.int 745 0), (.int 0 0), (.ref 928), (.int 750 0), (.int 0 0), (.ref 935), (.int 752 0), (.int 0 0), (.ref 942), (.int 765 0), (.int 0 0), (.ref 947), (.int 774 0), (.int 0 0), (.ref 954), (.int 782 0), (.int 0 0), (.ref 959), (.int 788 0), (.int 0 0), (.ref 964), (.int 790 0), (.int 0 0), (.ref 971), (.int 796 0), (.int 0 0), (.ref 978), (.int 922 0), (.int 0 0), (.ref 1168), (.int 929 0), (.int 0 0), (.ref 1173), (.int 931 0), (.int 0 0), (.ref 1178), (.int 934 0), (.int 0 0), (.ref 1185), (.int 952 0), (.int 0 0), (.ref 1190), (.int 955 0), (.int 0 0), (.ref 1195), (.int 957 0), (.int 0 0), (.ref 1202), (.int 961 0), (.int 0 0), (.ref 1209), (.int 1094 0), (.int 0 0), (.ref 1419), (.int 1101 0), (.int 0 0), (.ref 1424), (.int 1106 0), (.int 0 0), (.ref 1431), (.int 1112 0), (.int 0 0), (.ref 1436), (.int 1116 0), (.int 0 0), (.ref 1443), (.int 1121 0), (.int 0 0), (.ref 1448), (.int 1123 0), (.int 0 0), (.ref 1453), (.int 1125 0), (.int 0 0), (.ref 1458), (.int 1127 0), (.int 0 0), (.ref 1463), (.int 1129 0), (.int 0 0), (.ref 1470), (.int 1239 0), (.int 0 0), (.ref 1626), (.int 1247 0), (.int 0 0), (.ref 1631), (.int 1257 0), (.int 0 0), (.ref 1638), (.int 1264 0), (.int 0 0), (.ref 1645), (.int 1272 0), (.int 0 0), (.ref 1650), (.int 1294 0), (.int 0 0), (.ref 1657), (.int 1302 0), (.int 0 0), (.ref 1664), (.int 1304 0), (.int 0 0), (.ref 1671), (.int 1306 0), (.int 0 0), (.ref 1676), (.int 1313 0), (.int 0 0), (.ref 1681), (.int 1318 0), (.int 0 0), (.ref 1686), (.int 1330 0), (.int 0 0), (.ref 1693), (.int 1335 0), (.int 0 0), (.ref 1698), (.int 1344 0), (.int 0 0), (.ref 1703), (.int 1347 0), (.int 0 0), (.ref 1708), (.int 1365 0), (.int 0 0), (.ref 1713), (.int 1377 0), (.int 0 0), (.ref 1720), (.int 1379 0), (.int 0 0), (.ref 1725), (.int 1383 0), (.int 0 0), (.ref 1732), (.int 1391 0), (.int 0 0), (.ref 1737), (.int 1394 0), (.int 0 0), (.ref 1742), (.int 1401 0), (.int 0 0), (.ref 1749), (.int 1422 0), (.int 0 0), (.ref 1756), (.int 1427 0), (.int 0 0), (.ref 1763), (.int 1439 0), (.int 0 0), (.ref 1770), (.int 1454 0), (.int 0 0), (.ref 1777), (.int 1459 0), (.int 0 0), (.ref 1784), (.int 1464 0), (.int 0 0), (.ref 1791), (.int 1472 0), (.int 0 0), (.ref 1798), (.int 1496 0), (.int 0 0), (.ref 1805), (.int 1498 0), (.int 0 0), (.ref 1812), (.int 1500 0), (.int 0 0), (.ref 1819), (.int 1510 0), (.int 0 0), (.ref 1824), (.int 1512 0), (.int 0 0), (.ref 1831), (.int 1523 0), (.int 0 0), (.ref 1836), (.int 1531 0), (.int 0 0), (.ref 1843), (.int 1542 0), (.int 0 0), (.ref 1848), (.int 1544 0), (.int 0 0), (.ref 1855), (.int 1556 0), (.int 0 0), (.ref 1862), (.int 1572 0), (.int 0 0), (.ref 1871), (.int 1677 0), (.int 0 0), (.ref 2070), (.int 1683 0), (.int 0 0), (.ref 2075), (.int 1687 0), (.int 0 0), (.ref 2080), (.int 1691 0), (.int 0 0), (.ref 2085), (.int 1697 0), (.int 0 0), (.ref 2090), (.int 1701 0), (.int 0 0), (.ref 2097), (.int 1703 0), (.int 0 0), (.ref 2104), (.int 1712 0), (.int 0 0), (.ref 2111), (.int 1715 0), (.int 0 0), (.ref 2118), (.int 1717 0), (.int 0 0), (.ref 2125), (.int 1719 0), (.int 0 0), (.ref 2133), (.int 1725 0), (.int 0 0), (.ref 2138), (.int 1728 0), (.int 0 0), (.ref 2145), (.int 1738 0), (.int 0 0), (.ref 2166), (.int 1746 0), (.int 0 0), (.ref 2173), (.int 1761 0), (.int 0 0), (.ref 2180), (.int 1771 0), (.int 0 0), (.ref 2187), (.int 1780 0), (.int 0 0), (.ref 2192), (.int 1782 0), (.int 0 0), (.ref 2199), (.int 1787 0), (.int 0 0), (.ref 2204), (.int 1795 0), (.int 0 0), (.ref 2209), (.int 1808 0), (.int 0 0), (.ref 2214), (.int 1819 0), (.int 0 0), (.ref 2219), (.int 1830 0), (.int 0 0), (.ref 2224), (.int 1839 0), (.int 0 0), (.ref 2231), (.int 1850 0), (.int 0 0), (.ref 2238), (.int 1855 0), (.int 0 0), (.ref 2245), (.int 1860 0), (.int 0 0), (.ref 2252), (.int 1866 0), (.int 0 0), (.ref 2259), (.int 1870 0), (.int 0 0), (.ref 2266), (.int 1879 0), (.int 0 0), (.ref 2271), (.int 1885 0), (.int 0 0), (.ref 2278), (.int 1895 0), (.int 0 0), (.ref 2283), (.int 1899 0), (.int 0 0), (.ref 2290), (.int 1904 0), (.int 0 0), (.ref 2295), (.int 1911 0), (.int 0 0), (.ref 2302), (.int 1918 0), (.int 0 0), (.ref 2309), (.int 1923 0), (.int 0 0), (.ref 2314), (.int 1934 0), (.int 0 0), (.ref 2319), (.int 1951 0), (.int 0 0), (.ref 2326), (.int 1955 0), (.int 0 0), (.ref 2331), (.int 1959 0), (.int 0 0), (.ref 2336), (.int 1966 0), (.int 0 0), (.ref 2343), (.int 1975 0), (.int 0 0), (.ref 2350), (.int 1984 0), (.int 0 0), (.ref 2357), (.int 1987 0), (.int 0 0), (.ref 2364), (.int 1991 0), (.int 0 0), (.ref 2371), (.int 2148 0), (.int 0 0), (.ref 2562), (.int 2166 0), (.int 0 0), (.ref 2569), (.int 2168 0), (.int 0 0), (.ref 2576), (.int 2185 0), (.int 0 0), (.ref 2583), (.int 2187 0), (.int 0 0), (.ref 2590), (.int 2192 0), (.int 0 0), (.ref 2595), (.int 2200 0), (.int 0 0), (.ref 2602), (.int 2209 0), (.int 0 0), (.ref 2609), (.int 2218 0), (.int 0 0), (.ref 2614)]), #[]⟩, ⟨(.type "code"), none, (.fields #[(.str ⟨#[60, 109, 111, 100, 117, 108, 101, 62]⟩ 182), (.str ⟨#[60, 109, 111, 100, 117, 108, 101, 62]⟩ 183), (.str ⟨#[47, 99, 108, 97, 105, 109, 47, 99, 117, 116, 46, 112, 121]⟩ 184), (.int 1 0), (.int 0 0), (.int 0 0), (.int 0 0), (.int 0 0), (.ref 11), (.bool false), (.int 181 0), (.ref 12), .none, .none, .none, .none, (.int 185 0), (.int 1 0), (.str ⟨#[47, 99, 108, 97, 105, 109, 47, 99, 117, 116, 46, 112, 121]⟩ 186)]), #[]⟩, ⟨(.type "frame"), none, .plain, #[(some (.ref 13)), (some (.ref 3)), (some (.ref 3)), none, (some (.str ⟨#[95, 95, 109, 97, 105, 110, 95, 95]⟩ 164)), none, (some (.ref 0))]⟩]
def O14 : List Nat := [29, 30, 31, 32, 38, 49, 50, 51, 52, 53, 197, 208, 209, 210, 211, 212, 281, 292, 293, 294, 295, 296, 437, 438, 439, 443, 444, 445, 468, 469, 475, 476, 521, 522, 528, 529, 542, 543, 549, 550, 769, 770, 783, 784, 792, 793, 794, 798, 799, 805, 806, 808, 815, 816, 817, 823, 824, 830, 831, 837, 838, 844, 845, 846, 847, 848, 849, 850, 875, 876, 882, 883, 889, 890, 1638, 1639, 1664, 1665, 1671, 1672, 1676, 1677, 1686, 1687, 1693, 1694, 1708, 1709, 1805, 1806, 1843, 1844, 1848, 1849, 1873, 1877, 1878, 1884, 1885, 1887, 1889, 1895, 1896, 1902, 1903, 1909, 1910, 1916, 1917, 1918, 1924, 1925, 1931, 1932, 1938, 1939, 1945, 1946, 1952, 1953, 1959, 1960, 1966, 1967, 1973, 1974, 1980, 1981, 1987, 1988, 1994, 1995, 2001, 2002, 2008, 2009, 2015, 2016, 2022, 2023, 2029, 2030, 2036, 2037, 2043, 2044, 2050, 2051, 2052, 2058, 2059, 2060, 2061, 2062, 2063, 2064, 2090, 2091, 2152, 2153, 2154, 2155, 2156, 2157, 2158, 2192, 2193]
def A14 : List Nat := [2295, 2296, 2302, 2303, 2309, 2310, 2373, 2374, 2380, 2381, 2387, 2388, 2390, 2397, 2398, 2399, 2405, 2406, 2407, 2413, 2414, 2415, 2421, 2422, 2428, 2429, 2435, 2436, 2442, 2443, 2449, 2450, 2451, 2452, 2456, 2457, 2463, 2464, 2470, 2471, 2477, 2478, 2484, 2485, 2491, 2492, 2498, 2499, 2503, 2504, 2508, 2509, 2515, 2516, 2522, 2523, 2527, 2528, 2534, 2535, 2541, 2542, 2548, 2549, 2550, 2551, 2552, 2553, 2554, 2569, 2570, 2576, 2577, 2583, 2584, 2590, 2591, 2595, 2596, 2602, 2603, 2609, 2610, 2612, 2614, 2615]
def G14 (p : Program) (w : World) : List Obj := [⟨(.type "code"), none, (.fields #[(.str ⟨#[97, 108, 105, 107, 101, 95, 102, 97, 109, 105, 108, 105, 101, 115]⟩ 3506), (.str ⟨#[97, 108, 105, 107, 101, 95, 102, 97, 109, 105, 108, 105, 101, 115]⟩ 3507), (.str ⟨#[47, 99, 108, 97, 105, 109, 47, 99, 117, 116, 46, 112, 121]⟩ 3508), (.int 1904 0), (.int 2 0), (.int 0 0), (.int 0 0), (.int 3 0), (.ref 2292), (.bool true), (.int 181 0), (.ref 2293), .none, .none, .none, (.ref 2294), (.int 3509 0), (.int 1904 0), (.str ⟨#[47, 99, 108, 97, 105, 109, 47, 99, 117, 116, 46, 112, 121]⟩ 3510)]), #[]⟩,
  ⟨(.type "function"), none, (.func (fnX ⟨#[97, 108, 105, 107, 101, 95, 102, 97, 109, 105, 108, 105, 101, 115]⟩ ⟨#[97, 108, 105, 107, 101, 95, 102, 97, 109, 105, 108, 105, 101, 115]⟩ (stA p 227) [] .none .none .none (.str ⟨#[101, 118, 101, 114, 121, 110, 97, 109, 101, 46, 103, 117, 97, 114, 100, 115]⟩ 3272) none (.ref 2295) .none)), #[]⟩,
  ⟨(.type "code"), none, (.fields #[(.str ⟨#[97, 108, 105, 107, 101, 95, 115, 116, 97, 110, 100, 105, 110, 103, 115]⟩ 3512), (.str ⟨#[97, 108, 105, 107, 101, 95, 115, 116, 97, 110, 100, 105, 110, 103, 115]⟩ 3513), (.str ⟨#[47, 99, 108, 97, 105, 109, 47, 99, 117, 116, 46, 112, 121]⟩ 3514), (.int 1911 0), (.int 2 0), (.int 0 0), (.int 0 0), (.int 3 0), (.ref 2297), (.bool true), (.int 181 0), (.ref 2298), .none, (.ref 2299), (.ref 2300), (.ref 2301), (.int 3517 0), (.int 1911 0), (.str ⟨#[47, 99, 108, 97, 105, 109, 47, 99, 117, 116, 46, 112, 121]⟩ 3518)]), #[]⟩,
  ⟨(.type "function"), none, (.func (fnX ⟨#[97, 108, 105, 107, 101, 95, 115, 116, 97, 110, 100, 105, 110, 103, 115]⟩ ⟨#[97, 108, 105, 107, 101, 95, 115, 116, 97, 110, 100, 105, 110, 103, 115]⟩ (stA p 228) [] .none .none .none (.str ⟨#[101, 118, 101, 114, 121, 110, 97, 109, 101, 46, 103, 117, 97, 114, 100, 115]⟩ 3272) none (.ref 2302) .none)), #[]⟩,
  ⟨(.type "code"), none, (.fields #[(.str ⟨#[112, 97, 103, 101, 95, 116, 101, 120, 116]⟩ 3526), (.str ⟨#[112, 97, 103, 101, 95, 116, 101, 120, 116]⟩ 3527), (.str ⟨#[47, 99, 108, 97, 105, 109, 47, 99, 117, 116, 46, 112, 121]⟩ 3528), (.int 1918 0), (.int 2 0), (.int 0 0), (.int 0 0), (.int 3 0), (.ref 2304), (.bool true), (.int 181 0), (.ref 2305), .none, (.ref 2306), (.ref 2307), (.ref 2308), (.int 3533 0), (.int 1918 0), (.str ⟨#[47, 99, 108, 97, 105, 109, 47, 99, 117, 116, 46, 112, 121]⟩ 3534)]), #[]⟩,
  ⟨(.type "function"), none, (.func (fnX ⟨#[112, 97, 103, 101, 95, 116, 101, 120, 116]⟩ ⟨#[112, 97, 103, 101, 95, 116, 101, 120, 116]⟩ (stA p 232) [] .none .none .none (.str ⟨#[101, 118, 101, 114, 121, 110, 97, 109, 101, 46, 112, 97, 103, 101, 115]⟩ 3520) none (.ref 2309) .none)), #[]⟩,
  ⟨(.type "tuple"), none, (.seq #[] 0), #[]⟩,
  ⟨(.type "tuple"), none, (.seq #[(.ref 2373)] 0), #[]⟩,
  ⟨(.type "code"), none, (.fields #[(.str ⟨#[95, 95, 105, 110, 105, 116, 95, 95]⟩ 3627), (.str ⟨#[87, 111, 114, 108, 100, 46, 95, 95, 105, 110, 105, 116, 95, 95]⟩ 3628), (.str ⟨#[47, 99, 108, 97, 105, 109, 47, 99, 117, 116, 46, 112, 121]⟩ 3629), (.int 1993 0), (.int 2 0), (.int 0 0), (.int 0 0), (.int 3 0), (.ref 2375), (.bool true), (.int 181 0), (.ref 2376), .none, (.ref 2377), (.ref 2378), (.ref 2379), (.int 3632 0), (.int 1993 0), (.str ⟨#[47, 99, 108, 97, 105, 109, 47, 99, 117, 116, 46, 112, 121]⟩ 3633)]), #[]⟩,
  ⟨(.type "function"), none, (.func (fnX ⟨#[95, 95, 105, 110, 105, 116, 95, 95]⟩ ⟨#[87, 111, 114, 108, 100, 46, 95, 95, 105, 110, 105, 116, 95, 95]⟩ (kidA (stA p 243) 0) [] (.ref 2374) .none .none (.str ⟨#[101, 118, 101, 114, 121, 110, 97, 109, 101, 46, 119, 111, 114, 108, 100]⟩ 3613) none (.ref 2380) .none)), #[]⟩,
  ⟨(.type "code"), none, (.fields #[(.str ⟨#[114, 101, 97, 100]⟩ 3635), (.str ⟨#[87, 111, 114, 108, 100, 46, 114, 101, 97, 100]⟩ 3636), (.str ⟨#[47, 99, 108, 97, 105, 109, 47, 99, 117, 116, 46, 112, 121]⟩ 3637), (.int 1998 0), (.int 2 0), (.int 0 0), (.int 0 0), (.int 3 0), (.ref 2382), (.bool true), (.int 181 0), (.ref 2383), .none, (.ref 2384), (.ref 2385), (.ref 2386), (.int 3646 0), (.int 1998 0), (.str ⟨#[47, 99, 108, 97, 105, 109, 47, 99, 117, 116, 46, 112, 121]⟩ 3647)]), #[]⟩,
  ⟨(.type "function"), none, (.func (fnX ⟨#[114, 101, 97, 100]⟩ ⟨#[87, 111, 114, 108, 100, 46, 114, 101, 97, 100]⟩ (kidA (stA p 243) 1) [] .none .none .none (.str ⟨#[101, 118, 101, 114, 121, 110, 97, 109, 101, 46, 119, 111, 114, 108, 100]⟩ 3613) (some 2391) (.ref 2387) .none)), #[]⟩,
  ⟨(.type "classmethod"), (some 2389), (.fields #[(.ref 2388), (.bool false)]), #[]⟩,
  ⟨(.type "code"), none, (.fields #[(.str ⟨#[110, 97, 109, 101, 115]⟩ 3661), (.str ⟨#[87, 111, 114, 108, 100, 46, 110, 97, 109, 101, 115]⟩ 3662), (.str ⟨#[47, 99, 108, 97, 105, 109, 47, 99, 117, 116, 46, 112, 121]⟩ 3663), (.int 2012 0), (.int 1 0), (.int 0 0), (.int 0 0), (.int 3 0), (.ref 2392), (.bool true), (.int 181 0), (.ref 2393), .none, (.ref 2394), (.ref 2395), (.ref 2396), (.int 3665 0), (.int 2012 0), (.str ⟨#[47, 99, 108, 97, 105, 109, 47, 99, 117, 116, 46, 112, 121]⟩ 3666)]), #[]⟩,
  ⟨(.type "function"), none, (.func (fnX ⟨#[110, 97, 109, 101, 115]⟩ ⟨#[87, 111, 114, 108, 100, 46, 110, 97, 109, 101, 115]⟩ (kidA (stA p 243) 2) [] .none .none .none (.str ⟨#[101, 118, 101, 114, 121, 110, 97, 109, 101, 46, 119, 111, 114, 108, 100]⟩ 3613) none (.ref 2397) .none)), #[]⟩,
  ⟨(.type "property"), none, (.fields #[(.ref 2398), .none, .none, .none, (.str ⟨#[110, 97, 109, 101, 115]⟩ 3668), (.bool false)]), #[]⟩,
  ⟨(.type "code"), none, (.fields #[(.str ⟨#[112, 97, 103, 101]⟩ 3669), (.str ⟨#[87, 111, 114, 108, 100, 46, 112, 97, 103, 101]⟩ 3670), (.str ⟨#[47, 99, 108, 97, 105, 109, 47, 99, 117, 116, 46, 112, 121]⟩ 3671), (.int 2016 0), (.int 1 0), (.int 0 0), (.int 0 0), (.int 3 0), (.ref 2400), (.bool true), (.int 181 0), (.ref 2401), .none, (.ref 2402), (.ref 2403), (.ref 2404), (.int 3673 0), (.int 2016 0), (.str ⟨#[47, 99, 108, 97, 105, 109, 47, 99, 117, 116, 46, 112, 121]⟩ 3674)]), #[]⟩,
  ⟨(.type "function"), none, (.func (fnX ⟨#[112, 97, 103, 101]⟩ ⟨#[87, 111, 114, 108, 100, 46, 112, 97, 103, 101]⟩ (kidA (stA p 243) 3) [] .none .none .none (.str ⟨#[101, 118, 101, 114, 121, 110, 97, 109, 101, 46, 119, 111, 114, 108, 100]⟩ 3613) none (.ref 2405) .none)), #[]⟩,
  ⟨(.type "property"), none, (.fields #[(.ref 2406), .none, .none, .none, (.str ⟨#[112, 97, 103, 101]⟩ 3676), (.bool false)]), #[]⟩,
  ⟨(.type "code"), none, (.fields #[(.str ⟨#[97, 108, 108, 111, 119, 101, 100]⟩ 3677), (.str ⟨#[87, 111, 114, 108, 100, 46, 97, 108, 108, 111, 119, 101, 100]⟩ 3678), (.str ⟨#[47, 99, 108, 97, 105, 109, 47, 99, 117, 116, 46, 112, 121]⟩ 3679), (.int 2020 0), (.int 1 0), (.int 0 0), (.int 0 0), (.int 3 0), (.ref 2408), (.bool true), (.int 181 0), (.ref 2409), .none, (.ref 2410), (.ref 2411), (.ref 2412), (.int 3681 0), (.int 2020 0), (.str ⟨#[47, 99, 108, 97, 105, 109, 47, 99, 117, 116, 46, 112, 121]⟩ 3682)]), #[]⟩,
  ⟨(.type "function"), none, (.func (fnX ⟨#[97, 108, 108, 111, 119, 101, 100]⟩ ⟨#[87, 111, 114, 108, 100, 46, 97, 108, 108, 111, 119, 101, 100]⟩ (kidA (stA p 243) 4) [] .none .none .none (.str ⟨#[101, 118, 101, 114, 121, 110, 97, 109, 101, 46, 119, 111, 114, 108, 100]⟩ 3613) none (.ref 2413) .none)), #[]⟩,
  ⟨(.type "property"), none, (.fields #[(.ref 2414), .none, .none, .none, (.str ⟨#[97, 108, 108, 111, 119, 101, 100]⟩ 3684), (.bool false)]), #[]⟩,
  ⟨(.type "code"), none, (.fields #[(.str ⟨#[97, 108, 108, 111, 119]⟩ 3685), (.str ⟨#[87, 111, 114, 108, 100, 46, 97, 108, 108, 111, 119]⟩ 3686), (.str ⟨#[47, 99, 108, 97, 105, 109, 47, 99, 117, 116, 46, 112, 121]⟩ 3687), (.int 2024 0), (.int 2 0), (.int 0 0), (.int 0 0), (.int 3 0), (.ref 2416), (.bool true), (.int 181 0), (.ref 2417), .none, (.ref 2418), (.ref 2419), (.ref 2420), (.int 3691 0), (.int 2024 0), (.str ⟨#[47, 99, 108, 97, 105, 109, 47, 99, 117, 116, 46, 112, 121]⟩ 3692)]), #[]⟩,
  ⟨(.type "function"), none, (.func (fnX ⟨#[97, 108, 108, 111, 119]⟩ ⟨#[87, 111, 114, 108, 100, 46, 97, 108, 108, 111, 119]⟩ (kidA (stA p 243) 5) [] .none .none .none (.str ⟨#[101, 118, 101, 114, 121, 110, 97, 109, 101, 46, 119, 111, 114, 108, 100]⟩ 3613) none (.ref 2421) .none)), #[]⟩,
  ⟨(.type "code"), none, (.fields #[(.str ⟨#[115, 101, 116, 116, 108, 101, 95, 115, 116, 101, 112]⟩ 3694), (.str ⟨#[87, 111, 114, 108, 100, 46, 115, 101, 116, 116, 108, 101, 95, 115, 116, 101, 112]⟩ 3695), (.str ⟨#[47, 99, 108, 97, 105, 109, 47, 99, 117, 116, 46, 112, 121]⟩ 3696), (.int 2031 0), (.int 3 0), (.int 0 0), (.int 0 0), (.int 3 0), (.ref 2423), (.bool true), (.int 181 0), (.ref 2424), .none, (.ref 2425), (.ref 2426), (.ref 2427), (.int 3701 0), (.int 2031 0), (.str ⟨#[47, 99, 108, 97, 105, 109, 47, 99, 117, 116, 46, 112, 121]⟩ 3702)]), #[]⟩,
  ⟨(.type "function"), none, (.func (fnX ⟨#[115, 101, 116, 116, 108, 101, 95, 115, 116, 101, 112]⟩ ⟨#[87, 111, 114, 108, 100, 46, 115, 101, 116, 116, 108, 101, 95, 115, 116, 101, 112]⟩ (kidA (stA p 243) 6) [] .none .none .none (.str ⟨#[101, 118, 101, 114, 121, 110, 97, 109, 101, 46, 119, 111, 114, 108, 100]⟩ 3613) none (.ref 2428) .none)), #[]⟩,
  ⟨(.type "code"), none, (.fields #[(.str ⟨#[100, 111]⟩ 3704), (.str ⟨#[87, 111, 114, 108, 100, 46, 100, 111]⟩ 3705), (.str ⟨#[47, 99, 108, 97, 105, 109, 47, 99, 117, 116, 46, 112, 121]⟩ 3706), (.int 2038 0), (.int 2 0), (.int 0 0), (.int 0 0), (.int 3 0), (.ref 2430), (.bool true), (.int 181 0), (.ref 2431), .none, (.ref 2432), (.ref 2433), (.ref 2434), (.int 3710 0), (.int 2038 0), (.str ⟨#[47, 99, 108, 97, 105, 109, 47, 99, 117, 116, 46, 112, 121]⟩ 3711)]), #[]⟩,
  ⟨(.type "function"), none, (.func (fnX ⟨#[100, 111]⟩ ⟨#[87, 111, 114, 108, 100, 46, 100, 111]⟩ (kidA (stA p 243) 7) [] .none .none .none (.str ⟨#[101, 118, 101, 114, 121, 110, 97, 109, 101, 46, 119, 111, 114, 108, 100]⟩ 3613) none (.ref 2435) .none)), #[]⟩,
  ⟨(.type "code"), none, (.fields #[(.str ⟨#[98, 114, 101, 97, 107, 115]⟩ 3713), (.str ⟨#[87, 111, 114, 108, 100, 46, 98, 114, 101, 97, 107, 115]⟩ 3714), (.str ⟨#[47, 99, 108, 97, 105, 109, 47, 99, 117, 116, 46, 112, 121]⟩ 3715), (.int 2043 0), (.int 2 0), (.int 0 0), (.int 0 0), (.int 3 0), (.ref 2437), (.bool true), (.int 181 0), (.ref 2438), .none, (.ref 2439), (.ref 2440), (.ref 2441), (.int 3723 0), (.int 2043 0), (.str ⟨#[47, 99, 108, 97, 105, 109, 47, 99, 117, 116, 46, 112, 121]⟩ 3724)]), #[]⟩,
  ⟨(.type "function"), none, (.func (fnX ⟨#[98, 114, 101, 97, 107, 115]⟩ ⟨#[87, 111, 114, 108, 100, 46, 98, 114, 101, 97, 107, 115]⟩ (kidA (stA p 243) 8) [] .none .none .none (.str ⟨#[101, 118, 101, 114, 121, 110, 97, 109, 101, 46, 119, 111, 114, 108, 100]⟩ 3613) none (.ref 2442) .none)), #[]⟩,
  ⟨(.type "code"), none, (.fields #[(.str ⟨#[114, 117, 108, 101]⟩ 3726), (.str ⟨#[87, 111, 114, 108, 100, 46, 114, 117, 108, 101]⟩ 3727), (.str ⟨#[47, 99, 108, 97, 105, 109, 47, 99, 117, 116, 46, 112, 121]⟩ 3728), (.int 2055 0), (.int 3 0), (.int 0 0), (.int 0 0), (.int 3 0), (.ref 2444), (.bool true), (.int 181 0), (.ref 2445), .none, (.ref 2446), (.ref 2447), (.ref 2448), (.int 3735 0), (.int 2055 0), (.str ⟨#[47, 99, 108, 97, 105, 109, 47, 99, 117, 116, 46, 112, 121]⟩ 3736)]), #[]⟩,
  ⟨(.type "function"), none, (.func (fnX ⟨#[114, 117, 108, 101]⟩ ⟨#[87, 111, 114, 108, 100, 46, 114, 117, 108, 101]⟩ (kidA (stA p 243) 9) [] .none .none .none (.str ⟨#[101, 118, 101, 114, 121, 110, 97, 109, 101, 46, 119, 111, 114, 108, 100]⟩ 3613) none (.ref 2449) .none)), #[]⟩,
  ⟨(.type "tuple"), none, (.seq #[] 0), #[]⟩,
  ⟨(.type "tuple"), none, (.seq #[(.ref 2451)] 0), #[]⟩,
  ⟨(.type "code"), none, (.fields #[(.str ⟨#[103, 117, 97, 114, 100]⟩ 3738), (.str ⟨#[87, 111, 114, 108, 100, 46, 103, 117, 97, 114, 100]⟩ 3739), (.str ⟨#[47, 99, 108, 97, 105, 109, 47, 99, 117, 116, 46, 112, 121]⟩ 3740), (.int 2063 0), (.int 4 0), (.int 0 0), (.int 0 0), (.int 3 0), (.ref 2453), (.bool true), (.int 181 0), (.ref 2454), .none, .none, .none, (.ref 2455), (.int 3741 0), (.int 2063 0), (.str ⟨#[47, 99, 108, 97, 105, 109, 47, 99, 117, 116, 46, 112, 121]⟩ 3742)]), #[]⟩,
  ⟨(.type "function"), none, (.func (fnX ⟨#[103, 117, 97, 114, 100]⟩ ⟨#[87, 111, 114, 108, 100, 46, 103, 117, 97, 114, 100]⟩ (kidA (stA p 243) 10) [] (.ref 2452) .none .none (.str ⟨#[101, 118, 101, 114, 121, 110, 97, 109, 101, 46, 119, 111, 114, 108, 100]⟩ 3613) none (.ref 2456) .none)), #[]⟩,
  ⟨(.type "code"), none, (.fields #[(.str ⟨#[100, 114, 111, 112]⟩ 3744), (.str ⟨#[87, 111, 114, 108, 100, 46, 100, 114, 111, 112]⟩ 3745), (.str ⟨#[47, 99, 108, 97, 105, 109, 47, 99, 117, 116, 46, 112, 121]⟩ 3746), (.int 2072 0), (.int 2 0), (.int 0 0), (.int 0 0), (.int 3 0), (.ref 2458), (.bool true), (.int 181 0), (.ref 2459), .none, (.ref 2460), (.ref 2461), (.ref 2462), (.int 3752 0), (.int 2072 0), (.str ⟨#[47, 99, 108, 97, 105, 109, 47, 99, 117, 116, 46, 112, 121]⟩ 3753)]), #[]⟩,
  ⟨(.type "function"), none, (.func (fnX ⟨#[100, 114, 111, 112]⟩ ⟨#[87, 111, 114, 108, 100, 46, 100, 114, 111, 112]⟩ (kidA (stA p 243) 11) [] .none .none .none (.str ⟨#[101, 118, 101, 114, 121, 110, 97, 109, 101, 46, 119, 111, 114, 108, 100]⟩ 3613) none (.ref 2463) .none)), #[]⟩,
  ⟨(.type "code"), none, (.fields #[(.str ⟨#[107, 110, 111, 119]⟩ 3755), (.str ⟨#[87, 111, 114, 108, 100, 46, 107, 110, 111, 119]⟩ 3756), (.str ⟨#[47, 99, 108, 97, 105, 109, 47, 99, 117, 116, 46, 112, 121]⟩ 3757), (.int 2081 0), (.int 2 0), (.int 0 0), (.int 0 0), (.int 3 0), (.ref 2465), (.bool true), (.int 181 0), (.ref 2466), .none, (.ref 2467), (.ref 2468), (.ref 2469), (.int 3762 0), (.int 2081 0), (.str ⟨#[47, 99, 108, 97, 105, 109, 47, 99, 117, 116, 46, 112, 121]⟩ 3763)]), #[]⟩,
  ⟨(.type "function"), none, (.func (fnX ⟨#[107, 110, 111, 119]⟩ ⟨#[87, 111, 114, 108, 100, 46, 107, 110, 111, 119]⟩ (kidA (stA p 243) 12) [] .none .none .none (.str ⟨#[101, 118, 101, 114, 121, 110, 97, 109, 101, 46, 119, 111, 114, 108, 100]⟩ 3613) none (.ref 2470) .none)), #[]⟩,
  ⟨(.type "code"), none, (.fields #[(.str ⟨#[117, 110, 100, 111]⟩ 3765), (.str ⟨#[87, 111, 114, 108, 100, 46, 117, 110, 100, 111]⟩ 3766), (.str ⟨#[47, 99, 108, 97, 105, 109, 47, 99, 117, 116, 46, 112, 121]⟩ 3767), (.int 2090 0), (.int 1 0), (.int 0 0), (.int 0 0), (.int 3 0), (.ref 2472), (.bool true), (.int 181 0), (.ref 2473), .none, (.ref 2474), (.ref 2475), (.ref 2476), (.int 3769 0), (.int 2090 0), (.str ⟨#[47, 99, 108, 97, 105, 109, 47, 99, 117, 116, 46, 112, 121]⟩ 3770)]), #[]⟩,
  ⟨(.type "function"), none, (.func (fnX ⟨#[117, 110, 100, 111]⟩ ⟨#[87, 111, 114, 108, 100, 46, 117, 110, 100, 111]⟩ (kidA (stA p 243) 13) [] .none .none .none (.str ⟨#[101, 118, 101, 114, 121, 110, 97, 109, 101, 46, 119, 111, 114, 108, 100]⟩ 3613) none (.ref 2477) .none)), #[]⟩,
  ⟨(.type "code"), none, (.fields #[(.str ⟨#[112, 97, 115, 116]⟩ 3772), (.str ⟨#[87, 111, 114, 108, 100, 46, 112, 97, 115, 116]⟩ 3773), (.str ⟨#[47, 99, 108, 97, 105, 109, 47, 99, 117, 116, 46, 112, 121]⟩ 3774), (.int 2093 0), (.int 2 0), (.int 0 0), (.int 0 0), (.int 3 0), (.ref 2479), (.bool true), (.int 181 0), (.ref 2480), .none, (.ref 2481), (.ref 2482), (.ref 2483), (.int 3778 0), (.int 2093 0), (.str ⟨#[47, 99, 108, 97, 105, 109, 47, 99, 117, 116, 46, 112, 121]⟩ 3779)]), #[]⟩,
  ⟨(.type "function"), none, (.func (fnX ⟨#[112, 97, 115, 116]⟩ ⟨#[87, 111, 114, 108, 100, 46, 112, 97, 115, 116]⟩ (kidA (stA p 243) 14) [] .none .none .none (.str ⟨#[101, 118, 101, 114, 121, 110, 97, 109, 101, 46, 119, 111, 114, 108, 100]⟩ 3613) none (.ref 2484) .none)), #[]⟩,
  ⟨(.type "code"), none, (.fields #[(.str ⟨#[116, 114, 105, 97, 108]⟩ 3781), (.str ⟨#[87, 111, 114, 108, 100, 46, 116, 114, 105, 97, 108]⟩ 3782), (.str ⟨#[47, 99, 108, 97, 105, 109, 47, 99, 117, 116, 46, 112, 121]⟩ 3783), (.int 2098 0), (.int 1 0), (.int 0 0), (.int 0 0), (.int 3 0), (.ref 2486), (.bool true), (.int 181 0), (.ref 2487), .none, (.ref 2488), (.ref 2489), (.ref 2490), (.int 3785 0), (.int 2098 0), (.str ⟨#[47, 99, 108, 97, 105, 109, 47, 99, 117, 116, 46, 112, 121]⟩ 3786)]), #[]⟩,
  ⟨(.type "function"), none, (.func (fnX ⟨#[116, 114, 105, 97, 108]⟩ ⟨#[87, 111, 114, 108, 100, 46, 116, 114, 105, 97, 108]⟩ (kidA (stA p 243) 15) [] .none .none .none (.str ⟨#[101, 118, 101, 114, 121, 110, 97, 109, 101, 46, 119, 111, 114, 108, 100]⟩ 3613) none (.ref 2491) .none)), #[]⟩,
  ⟨(.type "code"), none, (.fields #[(.str ⟨#[97, 116, 116, 101, 109, 112, 116]⟩ 3788), (.str ⟨#[87, 111, 114, 108, 100, 46, 97, 116, 116, 101, 109, 112, 116]⟩ 3789), (.str ⟨#[47, 99, 108, 97, 105, 109, 47, 99, 117, 116, 46, 112, 121]⟩ 3790), (.int 2101 0), (.int 2 0), (.int 0 0), (.int 0 0), (.int 3 0), (.ref 2493), (.bool true), (.int 181 0), (.ref 2494), .none, (.ref 2495), (.ref 2496), (.ref 2497), (.int 3793 0), (.int 2101 0), (.str ⟨#[47, 99, 108, 97, 105, 109, 47, 99, 117, 116, 46, 112, 121]⟩ 3794)]), #[]⟩,
  ⟨(.type "function"), none, (.func (fnX ⟨#[97, 116, 116, 101, 109, 112, 116]⟩ ⟨#[87, 111, 114, 108, 100, 46, 97, 116, 116, 101, 109, 112, 116]⟩ (kidA (stA p 243) 16) [] .none .none .none (.str ⟨#[101, 118, 101, 114, 121, 110, 97, 109, 101, 46, 119, 111, 114, 108, 100]⟩ 3613) none (.ref 2498) .none)), #[]⟩,
  ⟨(.type "code"), none, (.fields #[(.str ⟨#[115, 112, 97, 110]⟩ 3796), (.str ⟨#[87, 111, 114, 108, 100, 46, 115, 112, 97, 110]⟩ 3797), (.str ⟨#[47, 99, 108, 97, 105, 109, 47, 99, 117, 116, 46, 112, 121]⟩ 3798), (.int 2104 0), (.int 2 0), (.int 0 0), (.int 0 0), (.int 3 0), (.ref 2500), (.bool true), (.int 181 0), (.ref 2501), .none, .none, .none, (.ref 2502), (.int 3799 0), (.int 2104 0), (.str ⟨#[47, 99, 108, 97, 105, 109, 47, 99, 117, 116, 46, 112, 121]⟩ 3800)]), #[]⟩,
  ⟨(.type "function"), none, (.func (fnX ⟨#[115, 112, 97, 110]⟩ ⟨#[87, 111, 114, 108, 100, 46, 115, 112, 97, 110]⟩ (kidA (stA p 243) 17) [] .none .none .none (.str ⟨#[101, 118, 101, 114, 121, 110, 97, 109, 101, 46, 119, 111, 114, 108, 100]⟩ 3613) none (.ref 2503) .none)), #[]⟩,
  ⟨(.type "code"), none, (.fields #[(.str ⟨#[118, 97, 108, 117, 101, 115, 95, 97, 116]⟩ 3802), (.str ⟨#[87, 111, 114, 108, 100, 46, 118, 97, 108, 117, 101, 115, 95, 97, 116]⟩ 3803), (.str ⟨#[47, 99, 108, 97, 105, 109, 47, 99, 117, 116, 46, 112, 121]⟩ 3804), (.int 2110 0), (.int 2 0), (.int 0 0), (.int 0 0), (.int 3 0), (.ref 2505), (.bool true), (.int 181 0), (.ref 2506), .none, .none, .none, (.ref 2507), (.int 3805 0), (.int 2110 0), (.str ⟨#[47, 99, 108, 97, 105, 109, 47, 99, 117, 116, 46, 112, 121]⟩ 3806)]), #[]⟩,
  ⟨(.type "function"), none, (.func (fnX ⟨#[118, 97, 108, 117, 101, 115, 95, 97, 116]⟩ ⟨#[87, 111, 114, 108, 100, 46, 118, 97, 108, 117, 101, 115, 95, 97, 116]⟩ (kidA (stA p 243) 18) [] .none .none .none (.str ⟨#[101, 118, 101, 114, 121, 110, 97, 109, 101, 46, 119, 111, 114, 108, 100]⟩ 3613) none (.ref 2508) .none)), #[]⟩,
  ⟨(.type "code"), none, (.fields #[(.str ⟨#[95, 95, 108, 101, 110, 95, 95]⟩ 3808), (.str ⟨#[87, 111, 114, 108, 100, 46, 95, 95, 108, 101, 110, 95, 95]⟩ 3809), (.str ⟨#[47, 99, 108, 97, 105, 109, 47, 99, 117, 116, 46, 112, 121]⟩ 3810), (.int 2118 0), (.int 1 0), (.int 0 0), (.int 0 0), (.int 3 0), (.ref 2510), (.bool true), (.int 181 0), (.ref 2511), .none, (.ref 2512), (.ref 2513), (.ref 2514), (.int 3812 0), (.int 2118 0), (.str ⟨#[47, 99, 108, 97, 105, 109, 47, 99, 117, 116, 46, 112, 121]⟩ 3813)]), #[]⟩,
  ⟨(.type "function"), none, (.func (fnX ⟨#[95, 95, 108, 101, 110, 95, 95]⟩ ⟨#[87, 111, 114, 108, 100, 46, 95, 95, 108, 101, 110, 95, 95]⟩ (kidA (stA p 243) 19) [] .none .none .none (.str ⟨#[101, 118, 101, 114, 121, 110, 97, 109, 101, 46, 119, 111, 114, 108, 100]⟩ 3613) none (.ref 2515) .none)), #[]⟩,
  ⟨(.type "code"), none, (.fields #[(.str ⟨#[95, 95, 105, 116, 101, 114, 95, 95]⟩ 3815), (.str ⟨#[87, 111, 114, 108, 100, 46, 95, 95, 105, 116, 101, 114, 95, 95]⟩ 3816), (.str ⟨#[47, 99, 108, 97, 105, 109, 47, 99, 117, 116, 46, 112, 121]⟩ 3817), (.int 2121 0), (.int 1 0), (.int 0 0), (.int 0 0), (.int 3 0), (.ref 2517), (.bool true), (.int 181 0), (.ref 2518), .none, (.ref 2519), (.ref 2520), (.ref 2521), (.int 3819 0), (.int 2121 0), (.str ⟨#[47, 99, 108, 97, 105, 109, 47, 99, 117, 116, 46, 112, 121]⟩ 3820)]), #[]⟩,
  ⟨(.type "function"), none, (.func (fnX ⟨#[95, 95, 105, 116, 101, 114, 95, 95]⟩ ⟨#[87, 111, 114, 108, 100, 46, 95, 95, 105, 116, 101, 114, 95, 95]⟩ (kidA (stA p 243) 20) [] .none .none .none (.str ⟨#[101, 118, 101, 114, 121, 110, 97, 109, 101, 46, 119, 111, 114, 108, 100]⟩ 3613) none (.ref 2522) .none)), #[]⟩,
  ⟨(.type "code"), none, (.fields #[(.str ⟨#[95, 95, 99, 111, 110, 116, 97, 105, 110, 115, 95, 95]⟩ 3822), (.str ⟨#[87, 111, 114, 108, 100, 46, 95, 95, 99, 111, 110, 116, 97, 105, 110, 115, 95, 95]⟩ 3823), (.str ⟨#[47, 99, 108, 97, 105, 109, 47, 99, 117, 116, 46, 112, 121]⟩ 3824), (.int 2124 0), (.int 2 0), (.int 0 0), (.int 0 0), (.int 3 0), (.ref 2524), (.bool true), (.int 181 0), (.ref 2525), .none, .none, .none, (.ref 2526), (.int 3825 0), (.int 2124 0), (.str ⟨#[47, 99, 108, 97, 105, 109, 47, 99, 117, 116, 46, 112, 121]⟩ 3826)]), #[]⟩,
  ⟨(.type "function"), none, (.func (fnX ⟨#[95, 95, 99, 111, 110, 116, 97, 105, 110, 115, 95, 95]⟩ ⟨#[87, 111, 114, 108, 100, 46, 95, 95, 99, 111, 110, 116, 97, 105, 110, 115, 95, 95]⟩ (kidA (stA p 243) 21) [] .none .none .none (.str ⟨#[101, 118, 101, 114, 121, 110, 97, 109, 101, 46, 119, 111, 114, 108, 100]⟩ 3613) none (.ref 2527) .none)), #[]⟩,
  ⟨(.type "code"), none, (.fields #[(.str ⟨#[95, 95, 103, 101, 116, 105, 116, 101, 109, 95, 95]⟩ 3828), (.str ⟨#[87, 111, 114, 108, 100, 46, 95, 95, 103, 101, 116, 105, 116, 101, 109, 95, 95]⟩ 3829), (.str ⟨#[47, 99, 108, 97, 105, 109, 47, 99, 117, 116, 46, 112, 121]⟩ 3830), (.int 2133 0), (.int 2 0), (.int 0 0), (.int 0 0), (.int 3 0), (.ref 2529), (.bool true), (.int 181 0), (.ref 2530), .none, (.ref 2531), (.ref 2532), (.ref 2533), (.int 3834 0), (.int 2133 0), (.str ⟨#[47, 99, 108, 97, 105, 109, 47, 99, 117, 116, 46, 112, 121]⟩ 3835)]), #[]⟩,
  ⟨(.type "function"), none, (.func (fnX ⟨#[95, 95, 103, 101, 116, 105, 116, 101, 109, 95, 95]⟩ ⟨#[87, 111, 114, 108, 100, 46, 95, 95, 103, 101, 116, 105, 116, 101, 109, 95, 95]⟩ (kidA (stA p 243) 22) [] .none .none .none (.str ⟨#[101, 118, 101, 114, 121, 110, 97, 109, 101, 46, 119, 111, 114, 108, 100]⟩ 3613) none (.ref 2534) .none)), #[]⟩,
  ⟨(.type "code"), none, (.fields #[(.str ⟨#[95, 95, 115, 101, 116, 105, 116, 101, 109, 95, 95]⟩ 3837), (.str ⟨#[87, 111, 114, 108, 100, 46, 95, 95, 115, 101, 116, 105, 116, 101, 109, 95, 95]⟩ 3838), (.str ⟨#[47, 99, 108, 97, 105, 109, 47, 99, 117, 116, 46, 112, 121]⟩ 3839), (.int 2139 0), (.int 3 0), (.int 0 0), (.int 0 0), (.int 3 0), (.ref 2536), (.bool true), (.int 181 0), (.ref 2537), .none, (.ref 2538), (.ref 2539), (.ref 2540), (.int 3844 0), (.int 2139 0), (.str ⟨#[47, 99, 108, 97, 105, 109, 47, 99, 117, 116, 46, 112, 121]⟩ 3845)]), #[]⟩,
  ⟨(.type "function"), none, (.func (fnX ⟨#[95, 95, 115, 101, 116, 105, 116, 101, 109, 95, 95]⟩ ⟨#[87, 111, 114, 108, 100, 46, 95, 95, 115, 101, 116, 105, 116, 101, 109, 95, 95]⟩ (kidA (stA p 243) 23) [] .none .none .none (.str ⟨#[101, 118, 101, 114, 121, 110, 97, 109, 101, 46, 119, 111, 114, 108, 100]⟩ 3613) none (.ref 2541) .none)), #[]⟩,
  ⟨(.type "code"), none, (.fields #[(.str ⟨#[95, 95, 101, 113, 95, 95]⟩ 3847), (.str ⟨#[87, 111, 114, 108, 100, 46, 95, 95, 101, 113, 95, 95]⟩ 3848), (.str ⟨#[47, 99, 108, 97, 105, 109, 47, 99, 117, 116, 46, 112, 121]⟩ 3849), (.int 2146 0), (.int 2 0), (.int 0 0), (.int 0 0), (.int 3 0), (.ref 2543), (.bool true), (.int 181 0), (.ref 2544), .none, (.ref 2545), (.ref 2546), (.ref 2547), (.int 3852 0), (.int 2146 0), (.str ⟨#[47, 99, 108, 97, 105, 109, 47, 99, 117, 116, 46, 112, 121]⟩ 3853)]), #[]⟩,
  ⟨(.type "function"), none, (.func (fnX ⟨#[95, 95, 101, 113, 95, 95]⟩ ⟨#[87, 111, 114, 108, 100, 46, 95, 95, 101, 113, 95, 95]⟩ (kidA (stA p 243) 24) [] .none .none .none (.str ⟨#[101, 118, 101, 114, 121, 110, 97, 109, 101, 46, 119, 111, 114, 108, 100]⟩ 3613) none (.ref 2548) .none)), #[]⟩,
  ⟨(.type "tuple"), none, (.seq #[(.str ⟨#[102, 108, 111, 111, 114]⟩ 3855), (.str ⟨#[115, 116, 97, 110, 100, 105, 110, 103, 115]⟩ 3856)] 0), #[]⟩,
  ⟨(.type "dict"), none, (.dict #[⟨PySem.PyData.keyHash w.params ⟨#[95, 95, 109, 111, 100, 117, 108, 101, 95, 95]⟩, (.str ⟨#[95, 95, 109, 111, 100, 117, 108, 101, 95, 95]⟩ 3622), (.str ⟨#[101, 118, 101, 114, 121, 110, 97, 109, 101, 46, 119, 111, 114, 108, 100]⟩ 3613)⟩, ⟨PySem.PyData.keyHash w.params ⟨#[95, 95, 102, 105, 114, 115, 116, 108, 105, 110, 101, 110, 111, 95, 95]⟩, (.str ⟨#[95, 95, 102, 105, 114, 115, 116, 108, 105, 110, 101, 110, 111, 95, 95]⟩ 3626), (.int 1991 3625)⟩, ⟨PySem.PyData.keyHash w.params ⟨#[95, 95, 105, 110, 105, 116, 95, 95]⟩, (.str ⟨#[95, 95, 105, 110, 105, 116, 95, 95]⟩ 3634), (.ref 2381)⟩, ⟨PySem.PyData.keyHash w.params ⟨#[114, 101, 97, 100]⟩, (.str ⟨#[114, 101, 97, 100]⟩ 3660), (.ref 2390)⟩, ⟨PySem.PyData.keyHash w.params ⟨#[110, 97, 109, 101, 115]⟩, (.str ⟨#[110, 97, 109, 101, 115]⟩ 3668), (.ref 2399)⟩, ⟨PySem.PyData.keyHash w.params ⟨#[112, 97, 103, 101]⟩, (.str ⟨#[112, 97, 103, 101]⟩ 3676), (.ref 2407)⟩, ⟨PySem.PyData.keyHash w.params ⟨#[97, 108, 108, 111, 119, 101, 100]⟩, (.str ⟨#[97, 108, 108, 111, 119, 101, 100]⟩ 3684), (.ref 2415)⟩, ⟨PySem.PyData.keyHash w.params ⟨#[97, 108, 108, 111, 119]⟩, (.str ⟨#[97, 108, 108, 111, 119]⟩ 3693), (.ref 2422)⟩, ⟨PySem.PyData.keyHash w.params ⟨#[115, 101, 116, 116, 108, 101, 95, 115, 116, 101, 112]⟩, (.str ⟨#[115, 101, 116, 116, 108, 101, 95, 115, 116, 101, 112]⟩ 3703), (.ref 2429)⟩, ⟨PySem.PyData.keyHash w.params ⟨#[100, 111]⟩, (.str ⟨#[100, 111]⟩ 3712), (.ref 2436)⟩, ⟨PySem.PyData.keyHash w.params ⟨#[98, 114, 101, 97, 107, 115]⟩, (.str ⟨#[98, 114, 101, 97, 107, 115]⟩ 3725), (.ref 2443)⟩, ⟨PySem.PyData.keyHash w.params ⟨#[114, 117, 108, 101]⟩, (.str ⟨#[114, 117, 108, 101]⟩ 3737), (.ref 2450)⟩, ⟨PySem.PyData.keyHash w.params ⟨#[103, 117, 97, 114, 100]⟩, (.str ⟨#[103, 117, 97, 114, 100]⟩ 3743), (.ref 2457)⟩, ⟨PySem.PyData.keyHash w.params ⟨#[100, 114, 111, 112]⟩, (.str ⟨#[100, 114, 111, 112]⟩ 3754), (.ref 2464)⟩, ⟨PySem.PyData.keyHash w.params ⟨#[107, 110, 111, 119]⟩, (.str ⟨#[107, 110, 111, 119]⟩ 3764), (.ref 2471)⟩, ⟨PySem.PyData.keyHash w.params ⟨#[117, 110, 100, 111]⟩, (.str ⟨#[117, 110, 100, 111]⟩ 3771), (.ref 2478)⟩, ⟨PySem.PyData.keyHash w.params ⟨#[112, 97, 115, 116]⟩, (.str ⟨#[112, 97, 115, 116]⟩ 3780), (.ref 2485)⟩, ⟨PySem.PyData.keyHash w.params ⟨#[116, 114, 105, 97, 108]⟩, (.str ⟨#[116, 114, 105, 97, 108]⟩ 3787), (.ref 2492)⟩, ⟨PySem.PyData.keyHash w.params ⟨#[97, 116, 116, 101, 109, 112, 116]⟩, (.str ⟨#[97, 116, 116, 101, 109, 112, 116]⟩ 3795), (.ref 2499)⟩, ⟨PySem.PyData.keyHash w.params ⟨#[115, 112, 97, 110]⟩, (.str ⟨#[115, 112, 97, 110]⟩ 3801), (.ref 2504)⟩, ⟨PySem.PyData.keyHash w.params ⟨#[118, 97, 108, 117, 101, 115, 95, 97, 116]⟩, (.str ⟨#[118, 97, 108, 117, 101, 115, 95, 97, 116]⟩ 3807), (.ref 2509)⟩, ⟨PySem.PyData.keyHash w.params ⟨#[95, 95, 108, 101, 110, 95, 95]⟩, (.str ⟨#[95, 95, 108, 101, 110, 95, 95]⟩ 3814), (.ref 2516)⟩, ⟨PySem.PyData.keyHash w.params ⟨#[95, 95, 105, 116, 101, 114, 95, 95]⟩, (.str ⟨#[95, 95, 105, 116, 101, 114, 95, 95]⟩ 3821), (.ref 2523)⟩, ⟨PySem.PyData.keyHash w.params ⟨#[95, 95, 99, 111, 110, 116, 97, 105, 110, 115, 95, 95]⟩, (.str ⟨#[95, 95, 99, 111, 110, 116, 97, 105, 110, 115, 95, 95]⟩ 3827), (.ref 2528)⟩, ⟨PySem.PyData.keyHash w.params ⟨#[95, 95, 103, 101, 116, 105, 116, 101, 109, 95, 95]⟩, (.str ⟨#[95, 95, 103, 101, 116, 105, 116, 101, 109, 95, 95]⟩ 3836), (.ref 2535)⟩, ⟨PySem.PyData.keyHash w.params ⟨#[95, 95, 115, 101, 116, 105, 116, 101, 109, 95, 95]⟩, (.str ⟨#[95, 95, 115, 101, 116, 105, 116, 101, 109, 95, 95]⟩ 3846), (.ref 2542)⟩, ⟨PySem.PyData.keyHash w.params ⟨#[95, 95, 101, 113, 95, 95]⟩, (.str ⟨#[95, 95, 101, 113, 95, 95]⟩ 3854), (.ref 2549)⟩, ⟨PySem.PyData.keyHash w.params ⟨#[95, 95, 115, 116, 97, 116, 105, 99, 95, 97, 116, 116, 114, 105, 98, 117, 116, 101, 115, 95, 95]⟩, (.str ⟨#[95, 95, 115, 116, 97, 116, 105, 99, 95, 97, 116, 116, 114, 105, 98, 117, 116, 101, 115, 95, 95]⟩ 3857), (.ref 2550)⟩, ⟨PySem.PyData.keyHash w.params ⟨#[95, 95, 100, 105, 99, 116, 95, 95]⟩, (.str ⟨#[95, 95, 100, 105, 99, 116, 95, 95]⟩ 3859), (.ref 2553)⟩, ⟨PySem.PyData.keyHash w.params ⟨#[95, 95, 119, 101, 97, 107, 114, 101, 102, 95, 95]⟩, (.str ⟨#[95, 95, 119, 101, 97, 107, 114, 101, 102, 95, 95]⟩ 3861), (.ref 2554)⟩, ⟨PySem.PyData.keyHash w.params ⟨#[95, 95, 100, 111, 99, 95, 95]⟩, (.str ⟨#[95, 95, 100, 111, 99, 95, 95]⟩ 3862), .none⟩, ⟨PySem.PyData.keyHash w.params ⟨#[95, 95, 104, 97, 115, 104, 95, 95]⟩, (.str ⟨#[95, 95, 104, 97, 115, 104, 95, 95]⟩ 3863), .none⟩] 5), #[]⟩,
  ⟨(.type "type"), none, (.cls ⟨⟨#[87, 111, 114, 108, 100]⟩, [(.type "object")], [(.ref 2552), (.type "object")], 2551, ⟨#[87, 111, 114, 108, 100]⟩, true, [], [], false, none, false⟩), #[none, none, (some (.str ⟨#[87, 111, 114, 108, 100]⟩ 3615)), (some (.str ⟨#[87, 111, 114, 108, 100]⟩ 3623)), (some (.builtin "object.__new__")), (some (.bool true))]⟩,
  ⟨(.type "getset_descriptor"), none, (.fields #[(.str ⟨#[95, 95, 100, 105, 99, 116, 95, 95]⟩ 3858), (.ref 2552), (.builtin "function.__dict__"), (.builtin "function.__dict__#set")]), #[]⟩,
  ⟨(.type "getset_descriptor"), none, (.fields #[(.str ⟨#[95, 95, 119, 101, 97, 107, 114, 101, 102, 95, 95]⟩ 3860), (.ref 2552), (.builtin "ExceptionGroup.__weakref__"), .none]), #[]⟩,
  ⟨(.type "code"), none, (.fields #[(.str ⟨#[95, 108, 97, 119, 95, 112, 101, 110]⟩ 3878), (.str ⟨#[95, 108, 97, 119, 95, 112, 101, 110]⟩ 3879), (.str ⟨#[47, 99, 108, 97, 105, 109, 47, 99, 117, 116, 46, 112, 121]⟩ 3880), (.int 2166 0), (.int 1 0), (.int 0 0), (.int 0 0), (.int 3 0), (.ref 2564), (.bool true), (.int 181 0), (.ref 2565), .none, (.ref 2566), (.ref 2567), (.ref 2568), (.int 3882 0), (.int 2166 0), (.str ⟨#[47, 99, 108, 97, 105, 109, 47, 99, 117, 116, 46, 112, 121]⟩ 3883)]), #[]⟩,
  ⟨(.type "function"), none, (.func (fnX ⟨#[95, 108, 97, 119, 95, 112, 101, 110]⟩ ⟨#[95, 108, 97, 119, 95, 112, 101, 110]⟩ (stA p 246) [] .none .none .none (.str ⟨#[108, 97, 119, 95, 101, 118, 101, 114, 121, 110, 97, 109, 101, 95, 107, 55, 51, 95, 119, 111, 114, 108, 100, 115, 95, 98, 101, 103, 105, 110, 95, 101, 109, 112, 116, 121]⟩ 3876) none (.ref 2569) .none)), #[]⟩,
  ⟨(.type "code"), none, (.fields #[(.str ⟨#[95, 108, 97, 119, 95, 100, 114, 97, 119]⟩ 3885), (.str ⟨#[95, 108, 97, 119, 95, 100, 114, 97, 119]⟩ 3886), (.str ⟨#[47, 99, 108, 97, 105, 109, 47, 99, 117, 116, 46, 112, 121]⟩ 3887), (.int 2168 0), (.int 2 0), (.int 0 0), (.int 0 0), (.int 3 0), (.ref 2571), (.bool true), (.int 181 0), (.ref 2572), .none, (.ref 2573), (.ref 2574), (.ref 2575), (.int 3895 0), (.int 2168 0), (.str ⟨#[47, 99, 108, 97, 105, 109, 47, 99, 117, 116, 46, 112, 121]⟩ 3896)]), #[]⟩,
  ⟨(.type "function"), none, (.func (fnX ⟨#[95, 108, 97, 119, 95, 100, 114, 97, 119]⟩ ⟨#[95, 108, 97, 119, 95, 100, 114, 97, 119]⟩ (stA p 247) [] .none .none .none (.str ⟨#[108, 97, 119, 95, 101, 118, 101, 114, 121, 110, 97, 109, 101, 95, 107, 55, 51, 95, 119, 111, 114, 108, 100, 115, 95, 98, 101, 103, 105, 110, 95, 101, 109, 112, 116, 121]⟩ 3876) none (.ref 2576) .none)), #[]⟩,
  ⟨(.type "code"), none, (.fields #[(.str ⟨#[95, 108, 97, 119, 95, 112, 105, 99, 107]⟩ 3898), (.str ⟨#[95, 108, 97, 119, 95, 112, 105, 99, 107]⟩ 3899), (.str ⟨#[47, 99, 108, 97, 105, 109, 47, 99, 117, 116, 46, 112, 121]⟩ 3900), (.int 2185 0), (.int 2 0), (.int 0 0), (.int 0 0), (.int 3 0), (.ref 2578), (.bool true), (.int 181 0), (.ref 2579), .none, (.ref 2580), (.ref 2581), (.ref 2582), (.int 3903 0), (.int 2185 0), (.str ⟨#[47, 99, 108, 97, 105, 109, 47, 99, 117, 116, 46, 112, 121]⟩ 3904)]), #[]⟩,
  ⟨(.type "function"), none, (.func (fnX ⟨#[95, 108, 97, 119, 95, 112, 105, 99, 107]⟩ ⟨#[95, 108, 97, 119, 95, 112, 105, 99, 107]⟩ (stA p 248) [] .none .none .none (.str ⟨#[108, 97, 119, 95, 101, 118, 101, 114, 121, 110, 97, 109, 101, 95, 107, 55, 51, 95, 119, 111, 114, 108, 100, 115, 95, 98, 101, 103, 105, 110, 95, 101, 109, 112, 116, 121]⟩ 3876) none (.ref 2583) .none)), #[]⟩,
  ⟨(.type "code"), none, (.fields #[(.str ⟨#[95, 108, 97, 119, 95, 115, 104, 117, 102, 102, 108, 101, 100]⟩ 3906), (.str ⟨#[95, 108, 97, 119, 95, 115, 104, 117, 102, 102, 108, 101, 100]⟩ 3907), (.str ⟨#[47, 99, 108, 97, 105, 109, 47, 99, 117, 116, 46, 112, 121]⟩ 3908), (.int 2187 0), (.int 2 0), (.int 0 0), (.int 0 0), (.int 3 0), (.ref 2585), (.bool true), (.int 181 0), (.ref 2586), .none, (.ref 2587), (.ref 2588), (.ref 2589), (.int 3913 0), (.int 2187 0), (.str ⟨#[47, 99, 108, 97, 105, 109, 47, 99, 117, 116, 46, 112, 121]⟩ 3914)]), #[]⟩,
  ⟨(.type "function"), none, (.func (fnX ⟨#[95, 108, 97, 119, 95, 115, 104, 117, 102, 102, 108, 101, 100]⟩ ⟨#[95, 108, 97, 119, 95, 115, 104, 117, 102, 102, 108, 101, 100]⟩ (stA p 249) [] .none .none .none (.str ⟨#[108, 97, 119, 95, 101, 118, 101, 114, 121, 110, 97, 109, 101, 95, 107, 55, 51, 95, 119, 111, 114, 108, 100, 115, 95, 98, 101, 103, 105, 110, 95, 101, 109, 112, 116, 121]⟩ 3876) none (.ref 2590) .none)), #[]⟩,
  ⟨(.type "code"), none, (.fields #[(.str ⟨#[95, 108, 97, 119, 95, 119, 111, 114, 100, 115]⟩ 3916), (.str ⟨#[95, 108, 97, 119, 95, 119, 111, 114, 100, 115]⟩ 3917), (.str ⟨#[47, 99, 108, 97, 105, 109, 47, 99, 117, 116, 46, 112, 121]⟩ 3918), (.int 2192 0), (.int 2 0), (.int 0 0), (.int 0 0), (.int 3 0), (.ref 2592), (.bool true), (.int 181 0), (.ref 2593), .none, .none, .none, (.ref 2594), (.int 3919 0), (.int 2192 0), (.str ⟨#[47, 99, 108, 97, 105, 109, 47, 99, 117, 116, 46, 112, 121]⟩ 3920)]), #[]⟩,
  ⟨(.type "function"), none, (.func (fnX ⟨#[95, 108, 97, 119, 95, 119, 111, 114, 100, 115]⟩ ⟨#[95, 108, 97, 119, 95, 119, 111, 114, 100, 115]⟩ (stA p 250) [] .none .none .none (.str ⟨#[108, 97, 119, 95, 101, 118, 101, 114, 121, 110, 97, 109, 101, 95, 107, 55, 51, 95, 119, 111, 114, 108, 100, 115, 95, 98, 101, 103, 105, 110, 95, 101, 109, 112, 116, 121]⟩ 3876) none (.ref 2595) .none)), #[]⟩,
  ⟨(.type "code"), none, (.fields #[(.str ⟨#[95, 108, 97, 119, 95, 101, 114, 114, 111, 114]⟩ 3922), (.str ⟨#[95, 108, 97, 119, 95, 101, 114, 114, 111, 114]⟩ 3923), (.str ⟨#[47, 99, 108, 97, 105, 109, 47, 99, 117, 116, 46, 112, 121]⟩ 3924), (.int 2200 0), (.int 1 0), (.int 0 0), (.int 0 0), (.int 3 0), (.ref 2597), (.bool true), (.int 181 0), (.ref 2598), .none, (.ref 2599), (.ref 2600), (.ref 2601), (.int 3928 0), (.int 2200 0), (.str ⟨#[47, 99, 108, 97, 105, 109, 47, 99, 117, 116, 46, 112, 121]⟩ 3929)]), #[]⟩,
  ⟨(.type "function"), none, (.func (fnX ⟨#[95, 108, 97, 119, 95, 101, 114, 114, 111, 114]⟩ ⟨#[95, 108, 97, 119, 95, 101, 114, 114, 111, 114]⟩ (stA p 251) [] .none .none .none (.str ⟨#[108, 97, 119, 95, 101, 118, 101, 114, 121, 110, 97, 109, 101, 95, 107, 55, 51, 95, 119, 111, 114, 108, 100, 115, 95, 98, 101, 103, 105, 110, 95, 101, 109, 112, 116, 121]⟩ 3876) none (.ref 2602) .none)), #[]⟩,
  ⟨(.type "code"), none, (.fields #[(.str ⟨#[95, 108, 97, 119, 95, 105, 116, 101, 109, 95, 101, 114, 114, 111, 114]⟩ 3931), (.str ⟨#[95, 108, 97, 119, 95, 105, 116, 101, 109, 95, 101, 114, 114, 111, 114]⟩ 3932), (.str ⟨#[47, 99, 108, 97, 105, 109, 47, 99, 117, 116, 46, 112, 121]⟩ 3933), (.int 2209 0), (.int 2 0), (.int 0 0), (.int 0 0), (.int 3 0), (.ref 2604), (.bool true), (.int 181 0), (.ref 2605), .none, (.ref 2606), (.ref 2607), (.ref 2608), (.int 3939 0), (.int 2209 0), (.str ⟨#[47, 99, 108, 97, 105, 109, 47, 99, 117, 116, 46, 112, 121]⟩ 3940)]), #[]⟩,
  ⟨(.type "function"), none, (.func (fnX ⟨#[95, 108, 97, 119, 95, 105, 116, 101, 109, 95, 101, 114, 114, 111, 114]⟩ ⟨#[95, 108, 97, 119, 95, 105, 116, 101, 109, 95, 101, 114, 114, 111, 114]⟩ (stA p 252) [] .none .none .none (.str ⟨#[108, 97, 119, 95, 101, 118, 101, 114, 121, 110, 97, 109, 101, 95, 107, 55, 51, 95, 119, 111, 114, 108, 100, 115, 95, 98, 101, 103, 105, 110, 95, 101, 109, 112, 116, 121]⟩ 3876) none (.ref 2609) .none)), #[]⟩,
  ⟨.none, none, (.fields #[]), #[]⟩,
  ⟨(.type "code"), none, (.fields #[(.str ⟨#[108, 97, 119]⟩ 3942), (.str ⟨#[108, 97, 119]⟩ 3943), (.str ⟨#[47, 99, 108, 97, 105, 109, 47, 99, 117, 116, 46, 112, 121]⟩ 3944), (.int 2218 0), (.int 1 0), (.int 0 0), (.int 0 0), (.int 3 0), (.ref 2611), (.bool true), (.int 181 0), (.ref 2612), .none, .none, .none, (.ref 2613), (.int 3945 0), (.int 2218 0), (.str ⟨#[47, 99, 108, 97, 105, 109, 47, 99, 117, 116, 46, 112, 121]⟩ 3946)]), #[]⟩,
  ⟨(.type "function"), none, (.func (fnX ⟨#[108, 97, 119]⟩ ⟨#[108, 97, 119]⟩ (stA p 253) [] .none .none .none (.str ⟨#[108, 97, 119, 95, 101, 118, 101, 114, 121, 110, 97, 109, 101, 95, 107, 55, 51, 95, 119, 111, 114, 108, 100, 115, 95, 98, 101, 103, 105, 110, 95, 101, 109, 112, 116, 121]⟩ 3876) none (.ref 2614) .none)), #[]⟩]
theorem grp14 (w : World) (os : OsState) (g : Nat → Obj) : grpO (HandSHeadRun.stepQ (HandSHeadRun.denQ HandSHeadRun.tabQ) PySem.W.Fast.tw10313853756172224601 w) 2151 (O14 ++ A14) (boot_heap w.params).life boot_drawn 3450 os (F13 w ++ (List.range 2246).map fun i => g (15 + i)) (piecesOf (((((((((((((((((((((((((((((PySem.W.Fast.tw10313853756172224601).main.body).drop 16)).drop 33)).drop 1)).drop 14)).drop 3)).drop 17)).drop 2)).drop 29)).drop 14)).drop 2)).drop 1)).drop 51)).drop 39)).take 32) (envA PySem.W.Fast.tw10313853756172224601 13 14) (codeA PySem.W.Fast.tw10313853756172224601 13 14) ⟨1866, 0, 1869, 14⟩ [topFrame ⟨0, 0, 0, 0⟩]) =
    some (.next, (codeA PySem.W.Fast.tw10313853756172224601 13 14), ⟨2218, 0, 2246, 90⟩, 2616, (boot_heap w.params).life, 0, boot_drawn, 3948, os, (F14 w).map some, (O14.map g ++ G14 PySem.W.Fast.tw10313853756172224601 w).map some) := by kernel_rfl
end HD
end
end
section
set_option Elab.async false
set_option linter.all false
set_option maxRecDepth 100000
set_option maxHeartbeats 0
noncomputable section
namespace HF
open PySem PySem.W PySem.Calls PyProof.Rows HK HD
theorem stQ : HandSHeadRun.stepQ (HandSHeadRun.denQ HandSHeadRun.tabQ) = stepT (denote treeTable) := by rw [HandSHeadRun.stepQ_eq, HandSHeadRun.denQ_eq, HandSHeadRun.tabQ_eq]
theorem dnQ : HandSHeadRun.denQ HandSHeadRun.tabQ = denote treeTable := by rw [HandSHeadRun.denQ_eq, HandSHeadRun.tabQ_eq]
section
variable {tb : String → Option Builtin} {p : Program} {w : World} {n₀ : Nat} {ann : Option Value} {env : Env} {q : Pos}
theorem piece_take {n N m : Nat} {s s' r : Shared} {l : List Stmt} {c : Code} {pos p' : Pos} (h : segRun tb p w n₀ ann 1 n s (piecesOf (l.take m) env c pos [topFrame q]) = some (.next, s', c, p'))
    (k : topRun tb p w n₀ ann N s' (restOf (l.drop m) env c p' [topFrame q]) = some r) : topRun tb p w n₀ ann (n + N) s (restOf l env c pos [topFrame q]) = some r := by
  have z := piece_app h k
  rwa [List.take_append_drop] at z
end
theorem fin (w : World) (s : Shared) (c : Code) (pos : Pos) : topRun treeTable PySem.W.Fast.tw10313853756172224601 w 11 (some (.ref 6)) 2 s ⟨doneF .next, c, pos, [topFrame ⟨0, 0, 0, 0⟩]⟩ = some s := by
  obtain ⟨h, g, d, t, os⟩ := s
  rfl
noncomputable def sE (w : World) (os : OsState) (g : Nat → Obj) : Shared := stL (boot_heap w.params).life boot_drawn 3948 os (F14 w ++ (List.range 2601).map fun i => g (15 + i))
noncomputable def KA : List Nat := O14 ++ A14
noncomputable def GA (w : World) : List Obj := G1 PySem.W.Fast.tw10313853756172224601 w ++ G2 PySem.W.Fast.tw10313853756172224601 w ++ G3 PySem.W.Fast.tw10313853756172224601 w ++ G4 PySem.W.Fast.tw10313853756172224601 w ++ G5 PySem.W.Fast.tw10313853756172224601 w ++ G6 PySem.W.Fast.tw10313853756172224601 w ++ G7 PySem.W.Fast.tw10313853756172224601 w ++ G8 PySem.W.Fast.tw10313853756172224601 w ++ G9 PySem.W.Fast.tw10313853756172224601 w ++ G10 PySem.W.Fast.tw10313853756172224601 w ++ G11 PySem.W.Fast.tw10313853756172224601 w ++ G12 PySem.W.Fast.tw10313853756172224601 w ++ G13 PySem.W.Fast.tw10313853756172224601 w ++ G14 PySem.W.Fast.tw10313853756172224601 w
theorem run (w : World) (os : OsState) : ∃ g : Nat → Obj, topRun treeTable PySem.W.Fast.tw10313853756172224601 w 11 (some (.ref 6)) (12 + (1 + (3580 + (805 + (318 + (408 + (181 + (1252 + (246 + (1373 + (1534 + (1426 + (131 + (2484 + (2472 + (2151 + 2)))))))))))))))) ⟨boot_heap w.params, #[], boot_drawn, boot_toks, os⟩ (topStub PySem.W.Fast.tw10313853756172224601) = some (sE w os g) ∧ KA.map g = GA w := by
  obtain ⟨g1, r1, e1⟩ := grpO_ok (p := PySem.W.Fast.tw10313853756172224601) (w := w) (n := 299) (F := F1 w) (G := O1.map (fun _ => default) ++ G1 PySem.W.Fast.tw10313853756172224601 w) rfl (by decide) (by
    have h := grp1 w os (fun _ => default)
    rw [stQ] at h
    exact h)
  obtain ⟨g2, r2, e2⟩ := grpO_ok (p := PySem.W.Fast.tw10313853756172224601) (w := w) (n := 447) (F := F2 w) (G := O2.map g1 ++ G2 PySem.W.Fast.tw10313853756172224601 w) rfl (by decide) (by
    have h := grp2 w os g1
    rw [stQ] at h
    exact h)
  obtain ⟨g3, r3, e3⟩ := grpO_ok (p := PySem.W.Fast.tw10313853756172224601) (w := w) (n := 465) (F := F3 w) (G := O3.map g2 ++ G3 PySem.W.Fast.tw10313853756172224601 w) rfl (by decide) (by
    have h := grp3 w os g2
    rw [stQ] at h
    exact h)
  obtain ⟨g4, r4, e4⟩ := grpO_ok (p := PySem.W.Fast.tw10313853756172224601) (w := w) (n := 551) (F := F4 w) (G := O4.map g3 ++ G4 PySem.W.Fast.tw10313853756172224601 w) rfl (by decide) (by
    have h := grp4 w os g3
    rw [stQ] at h
    exact h)
  obtain ⟨g5, r5, e5⟩ := grpO_ok (p := PySem.W.Fast.tw10313853756172224601) (w := w) (n := 554) (F := F5 w) (G := O5.map g4 ++ G5 PySem.W.Fast.tw10313853756172224601 w) rfl (by decide) (by
    have h := grp5 w os g4
    rw [stQ] at h
    exact h)
  obtain ⟨g6, r6, e6⟩ := grpO_ok (p := PySem.W.Fast.tw10313853756172224601) (w := w) (n := 747) (F := F6 w) (G := O6.map g5 ++ G6 PySem.W.Fast.tw10313853756172224601 w) rfl (by decide) (by
    have h := grp6 w os g5
    rw [stQ] at h
    exact h)
  obtain ⟨g7, r7, e7⟩ := grpO_ok (p := PySem.W.Fast.tw10313853756172224601) (w := w) (n := 749) (F := F7 w) (G := O7.map g6 ++ G7 PySem.W.Fast.tw10313853756172224601 w) rfl (by decide) (by
    have h := grp7 w os g6
    rw [stQ] at h
    exact h)
  obtain ⟨g8, r8, e8⟩ := grpO_ok (p := PySem.W.Fast.tw10313853756172224601) (w := w) (n := 973) (F := F8 w) (G := O8.map g7 ++ G8 PySem.W.Fast.tw10313853756172224601 w) rfl (by decide) (by
    have h := grp8 w os g7
    rw [stQ] at h
    exact h)
  obtain ⟨g9, r9, e9⟩ := grpO_ok (p := PySem.W.Fast.tw10313853756172224601) (w := w) (n := 1204) (F := F9 w) (G := O9.map g8 ++ G9 PySem.W.Fast.tw10313853756172224601 w) rfl (by decide) (by
    have h := grp9 w os g8
    rw [stQ] at h
    exact h)
  obtain ⟨g10, r10, e10⟩ := grpO_ok (p := PySem.W.Fast.tw10313853756172224601) (w := w) (n := 1407) (F := F10 w) (G := O10.map g9 ++ G10 PySem.W.Fast.tw10313853756172224601 w) rfl (by decide) (by
    have h := grp10 w os g9
    rw [stQ] at h
    exact h)
  obtain ⟨g11, r11, e11⟩ := grpO_ok (p := PySem.W.Fast.tw10313853756172224601) (w := w) (n := 1414) (F := F11 w) (G := O11.map g10 ++ G11 PySem.W.Fast.tw10313853756172224601 w) rfl (by decide) (by
    have h := grp11 w os g10
    rw [stQ] at h
    exact h)
  obtain ⟨g12, r12, e12⟩ := grpO_ok (p := PySem.W.Fast.tw10313853756172224601) (w := w) (n := 1838) (F := F12 w) (G := O12.map g11 ++ G12 PySem.W.Fast.tw10313853756172224601 w) rfl (by decide) (by
    have h := grp12 w os g11
    rw [stQ] at h
    exact h)
  obtain ⟨g13, r13, e13⟩ := grpO_ok (p := PySem.W.Fast.tw10313853756172224601) (w := w) (n := 2261) (F := F13 w) (G := O13.map g12 ++ G13 PySem.W.Fast.tw10313853756172224601 w) rfl (by decide) (by
    have h := grp13 w os g12
    rw [stQ] at h
    exact h)
  obtain ⟨g14, r14, e14⟩ := grpO_ok (p := PySem.W.Fast.tw10313853756172224601) (w := w) (n := 2616) (F := F14 w) (G := O14.map g13 ++ G14 PySem.W.Fast.tw10313853756172224601 w) rfl (by decide) (by
    have h := grp14 w os g13
    rw [stQ] at h
    exact h)
  refine ⟨g14, ?_, ?_⟩
  · have h0 := pre w os
    rw [stQ, dnQ] at h0
    have p0 := preO_ok (p := PySem.W.Fast.tw10313853756172224601) (F := F0 w) rfl h0
    rw [show stL (boot_heap w.params).life boot_drawn 187 os (F0 w) = stL (boot_heap w.params).life boot_drawn 187 os (F0 w ++ (List.range 0).map fun i => (fun _ => (default : Obj)) (15 + i)) from by rw [List.range_zero, List.map_nil, List.append_nil]] at p0
    refine go_top p0 (piece_block (blk w _) ?_)
    refine piece_take (m := 16) r1 ?_
    refine piece_take (m := 33) r2 ?_
    refine piece_take (m := 1) r3 ?_
    refine piece_take (m := 14) r4 ?_
    refine piece_take (m := 3) r5 ?_
    refine piece_take (m := 17) r6 ?_
    refine piece_take (m := 2) r7 ?_
    refine piece_take (m := 29) r8 ?_
    refine piece_take (m := 14) r9 ?_
    refine piece_take (m := 2) r10 ?_
    refine piece_take (m := 1) r11 ?_
    refine piece_take (m := 51) r12 ?_
    refine piece_take (m := 39) r13 ?_
    refine piece_take (m := 32) r14 ?_
    have hr : (((((((((((((((((((((((((((((PySem.W.Fast.tw10313853756172224601).main.body).drop 16)).drop 33)).drop 1)).drop 14)).drop 3)).drop 17)).drop 2)).drop 29)).drop 14)).drop 2)).drop 1)).drop 51)).drop 39)).drop 32) = [] := by kernel_rfl
    rw [hr]
    exact piece_nil (fin w _ _ _)
  · show (O14 ++ A14).map g14 = GA w
    rw [e14]
    unfold GA
    rw [show O14 = O13 ++ A13 from rfl, e13]
    rw [show O13 = O12 ++ A12 from rfl, e12]
    rw [show O12 = O11 ++ A11 from rfl, e11]
    rw [show O11 = O10 ++ A10 from rfl, e10]
    rw [show O10 = O9 ++ A9 from rfl, e9]
    rw [show O9 = O8 ++ A8 from rfl, e8]
    rw [show O8 = O7 ++ A7 from rfl, e7]
    rw [show O7 = O6 ++ A6 from rfl, e6]
    rw [show O6 = O5 ++ A5 from rfl, e5]
    rw [show O5 = O4 ++ A4 from rfl, e4]
    rw [show O4 = O3 ++ A3 from rfl, e3]
    rw [show O3 = O2 ++ A2 from rfl, e2]
    rw [show O2 = O1 ++ A1 from rfl, e1]
    rfl
noncomputable def q : Program := viewA PySem.W.Fast.tw10313853756172224601 253
noncomputable def loose : List PySem.Str := [⟨#[95, 119, 97, 108, 108]⟩, ⟨#[69, 118, 101, 114, 121, 110, 97, 109, 101, 69, 114, 114, 111, 114]⟩, ⟨#[66, 97, 100, 80, 114, 111, 103, 114, 97, 109]⟩, ⟨#[66, 97, 100, 84, 101, 120, 116]⟩, ⟨#[66, 97, 100, 86, 97, 108, 117, 101]⟩, ⟨#[79, 116, 104, 101, 114, 83, 116, 111, 99, 107]⟩, ⟨#[84, 111, 111, 77, 97, 110, 121]⟩, ⟨#[78, 111, 86, 97, 114, 105, 97, 98, 108, 101]⟩, ⟨#[78, 111, 116, 69, 120, 97, 99, 116]⟩, ⟨#[69, 109, 112, 116, 121, 83, 112, 97, 110]⟩, ⟨#[66, 97, 100, 78, 97, 109, 101]⟩, ⟨#[66, 97, 100, 82, 117, 108, 101]⟩, ⟨#[82, 101, 115, 116, 108, 101, 115, 115]⟩, ⟨#[66, 114, 111, 107, 101, 110]⟩, ⟨#[83, 101, 97, 109]⟩, ⟨#[111, 99, 99, 117, 114, 114, 105, 110, 103]⟩, ⟨#[97, 115, 99, 101, 110, 100, 105, 110, 103]⟩, ⟨#[102, 114, 101, 101]⟩, ⟨#[103, 114, 101, 97, 116, 101, 115, 116]⟩, ⟨#[112, 117, 116]⟩, ⟨#[102, 114, 101, 115, 104]⟩, ⟨#[119, 97, 121, 115]⟩, ⟨#[108, 111, 110, 103, 101, 114, 95, 119, 97, 121, 115]⟩, ⟨#[119, 105, 100, 101, 110, 101, 100]⟩, ⟨#[101, 110, 111, 117, 103, 104]⟩, ⟨#[115, 116, 97, 110, 100, 115]⟩, ⟨#[102, 105, 108, 108, 105, 110, 103, 115]⟩, ⟨#[116, 111, 108, 100, 95, 116, 101, 114, 109, 115]⟩, ⟨#[117, 110, 108, 105, 107, 101]⟩, ⟨#[101, 113, 117, 97, 108, 95, 108, 105, 115, 116, 115]⟩, ⟨#[105, 115, 95, 102, 108, 97, 116]⟩, ⟨#[102, 108, 97, 116, 95, 114, 111, 119, 115]⟩, ⟨#[115, 97, 109, 101]⟩, ⟨#[109, 101, 109, 98, 101, 114]⟩, ⟨#[119, 105, 116, 104, 105, 110]⟩, ⟨#[104, 97, 115, 95, 115, 101, 116]⟩, ⟨#[114, 111, 119, 95, 111, 118, 101, 114]⟩, ⟨#[98, 117, 105, 108, 116]⟩, ⟨#[115, 104, 105, 102, 116, 101, 100]⟩, ⟨#[69, 77, 80, 84, 89]⟩, ⟨#[115, 116, 111, 99, 107]⟩, ⟨#[82, 69, 83, 69, 82, 86, 69, 68]⟩, ⟨#[68, 69, 69, 80, 69, 83, 84, 95, 116, 114, 101, 101, 115]⟩, ⟨#[76, 69, 86, 69, 76, 83]⟩, ⟨#[71, 82, 69, 65, 84, 69, 83, 84]⟩, ⟨#[83, 73, 71, 78, 83]⟩, ⟨#[80, 76, 65, 73, 78]⟩, ⟨#[105, 115, 95, 119, 111, 114, 100]⟩, ⟨#[105, 115, 95, 110, 97, 109, 101]⟩, ⟨#[112, 97, 116, 116, 101, 114, 110, 95, 118, 97, 114, 105, 97, 98, 108, 101, 115]⟩, ⟨#[103, 111, 111, 100, 95, 112, 97, 116, 116, 101, 114, 110]⟩, ⟨#[103, 111, 111, 100]⟩, ⟨#[103, 111, 111, 100, 95, 101, 120, 112, 114, 101, 115, 115, 105, 111, 110]⟩, ⟨#[103, 111, 111, 100, 95, 103, 97, 116, 104, 101, 114]⟩, ⟨#[103, 111, 111, 100, 95, 116, 101, 115, 116]⟩, ⟨#[103, 111, 111, 100, 95, 104, 101, 97, 100]⟩, ⟨#[119, 114, 111, 110, 103, 95, 112, 108, 97, 99, 101]⟩, ⟨#[102, 114, 101, 101, 95, 118, 97, 114, 105, 97, 98, 108, 101, 115]⟩, ⟨#[106, 111, 105, 110, 101, 100]⟩, ⟨#[115, 116, 97, 116, 101, 95, 118, 97, 114, 105, 97, 98, 108, 101, 115]⟩, ⟨#[86, 65, 76, 85, 69, 95, 83, 73, 71, 78, 83]⟩, ⟨#[84, 69, 83, 84, 95, 83, 73, 71, 78, 83]⟩, ⟨#[78, 85, 77, 66, 69, 82, 95, 83, 73, 71, 78, 83]⟩, ⟨#[67, 79, 77, 80, 65, 82, 69]⟩, ⟨#[68, 69, 69, 80, 69, 83, 84, 95, 114, 101, 97, 100, 105, 110, 103]⟩, ⟨#[85, 110, 114, 101, 97, 100]⟩, ⟨#[82, 101, 97, 100, 101, 114]⟩, ⟨#[98, 114, 97, 99, 107, 101, 116, 101, 100]⟩, ⟨#[70, 73, 82, 83, 84]⟩, ⟨#[65, 83, 83, 73, 71, 78, 95, 108, 105, 110, 101, 115]⟩, ⟨#[114, 101, 97, 100, 95, 108, 105, 110, 101, 115]⟩, ⟨#[114, 101, 97, 100, 95, 107, 110, 111, 119, 110]⟩, ⟨#[105, 110, 100, 101, 110, 116, 97, 116, 105, 111, 110]⟩, ⟨#[114, 101, 97, 100, 95, 98, 108, 111, 99, 107]⟩, ⟨#[114, 101, 97, 100, 95, 115, 116, 97, 116, 101, 109, 101, 110, 116]⟩, ⟨#[114, 101, 97, 100, 95, 105, 110, 110, 101, 114]⟩, ⟨#[114, 101, 97, 100, 95, 104, 101, 97, 100]⟩, ⟨#[104, 101, 97, 100, 95, 111, 102]⟩, ⟨#[83, 73, 71, 78, 95, 79, 70]⟩, ⟨#[65, 83, 83, 73, 71, 78, 95, 119, 114, 105, 116, 105, 110, 103]⟩, ⟨#[112, 97, 116, 116, 101, 114, 110, 95, 116, 101, 120, 116]⟩, ⟨#[116, 114, 101, 101, 95, 116, 101, 120, 116]⟩, ⟨#[103, 97, 116, 104, 101, 114, 95, 116, 101, 120, 116]⟩, ⟨#[115, 116, 97, 116, 101, 109, 101, 110, 116, 95, 108, 105, 110, 101, 115]⟩, ⟨#[108, 105, 110, 101, 115, 95, 111, 102]⟩, ⟨#[112, 114, 111, 103, 114, 97, 109, 95, 116, 101, 120, 116]⟩, ⟨#[80, 114, 111, 103, 114, 97, 109]⟩, ⟨#[99, 104, 97, 105, 110, 101, 100]⟩, ⟨#[105, 115, 95, 119, 104, 111, 108, 101]⟩, ⟨#[119, 104, 111, 108, 101, 95, 108, 105, 115, 116]⟩, ⟨#[116, 114, 105, 109, 109, 101, 100]⟩, ⟨#[119, 104, 111, 108, 101, 95, 114, 111, 119]⟩, ⟨#[114, 111, 119, 95, 118, 97, 108, 117, 101]⟩, ⟨#[100, 105, 102, 102, 101, 114, 101, 110, 99, 101, 115]⟩, ⟨#[114, 111, 119, 95, 109, 111, 118, 101, 100]⟩, ⟨#[110, 101, 103, 97, 116, 101, 100]⟩, ⟨#[97, 100, 100, 95, 114, 111, 119, 115]⟩, ⟨#[116, 97, 107, 101, 95, 114, 111, 119, 115]⟩, ⟨#[109, 117, 108, 116, 105, 112, 108, 121, 95, 114, 111, 119, 115]⟩, ⟨#[102, 97, 108, 108, 105, 110, 103, 95, 114, 111, 119]⟩, ⟨#[115, 105, 103, 110, 95, 111, 102]⟩, ⟨#[102, 105, 114, 115, 116, 95, 102, 114, 111, 109]⟩, ⟨#[99, 117, 116, 95, 98, 121, 95, 115, 105, 103, 110]⟩, ⟨#[106, 111, 105, 110, 101, 100, 95, 115, 105, 103, 110, 115]⟩, ⟨#[115, 105, 103, 110, 115, 95, 111, 102]⟩, ⟨#[108, 101, 97, 115, 116, 95, 115, 105, 103, 110]⟩, ⟨#[114, 111, 119, 95, 111, 102]⟩, ⟨#[83, 105, 122, 101]⟩, ⟨#[85, 78, 73, 79, 78]⟩, ⟨#[77, 69, 69, 84]⟩, ⟨#[87, 73, 84, 72, 79, 85, 84]⟩, ⟨#[69, 73, 84, 72, 69, 82]⟩, ⟨#[69, 86, 69, 82, 89]⟩, ⟨#[105, 115, 95, 115, 116, 114, 101, 116, 99, 104]⟩, ⟨#[116, 117, 114, 110, 105, 110, 103, 95, 112, 111, 105, 110, 116, 115]⟩, ⟨#[112, 97, 105, 114, 101, 100]⟩, ⟨#[99, 111, 109, 98, 105, 110, 101, 100]⟩, ⟨#[115, 112, 97, 110, 95, 109, 111, 118, 101, 100]⟩, ⟨#[108, 105, 101, 115, 95, 105, 110]⟩, ⟨#[115, 116, 114, 101, 116, 99, 104, 95, 116, 101, 120, 116]⟩, ⟨#[83, 112, 97, 110]⟩, ⟨#[72, 79, 76, 68, 83]⟩, ⟨#[105, 115, 95, 112, 105, 101, 99, 101]⟩, ⟨#[112, 105, 101, 99, 101, 115, 95, 111, 102]⟩, ⟨#[112, 105, 101, 99, 101, 95, 97, 116]⟩, ⟨#[108, 105, 110, 101, 100]⟩, ⟨#[97, 112, 97, 114, 116, 95, 115, 105, 103, 110, 115]⟩, ⟨#[108, 101, 97, 115, 116, 95, 97, 112, 97, 114, 116]⟩, ⟨#[97, 100, 100, 101, 100]⟩, ⟨#[109, 117, 108, 116, 105, 112, 108, 105, 101, 100]⟩, ⟨#[111, 112, 112, 111, 115, 105, 116, 101]⟩, ⟨#[84, 97, 108, 108, 121]⟩, ⟨#[102, 105, 98, 114, 101]⟩, ⟨#[111, 114, 98, 105, 116, 95, 114, 111, 119]⟩, ⟨#[99, 111, 117, 110, 116, 95, 114, 111, 119]⟩, ⟨#[99, 111, 109, 112, 97, 114, 101, 95, 114, 111, 119, 115]⟩, ⟨#[119, 114, 105, 116, 116, 101, 110]⟩, ⟨#[99, 111, 108, 108, 101, 99, 116, 101, 100]⟩, ⟨#[110, 117, 109, 98, 101, 114]⟩, ⟨#[99, 111, 117, 110, 116, 95, 97, 116]⟩, ⟨#[116, 114, 101, 101, 95, 115, 105, 122, 101]⟩, ⟨#[97, 114, 114, 97, 110, 103, 101, 109, 101, 110, 116, 115]⟩, ⟨#[115, 104, 111, 119, 110]⟩, ⟨#[115, 104, 111, 119, 110, 95, 119, 105, 116, 104, 105, 110]⟩, ⟨#[116, 97, 107, 101, 110]⟩, ⟨#[104, 97, 110, 100, 95, 111, 102]⟩, ⟨#[118, 97, 108, 117, 101, 95, 111, 102]⟩, ⟨#[109, 105, 120, 101, 100]⟩, ⟨#[109, 101, 109, 98, 101, 114, 115, 95, 104, 97, 110, 100]⟩, ⟨#[106, 111, 105, 110, 95, 111, 102]⟩, ⟨#[98, 111, 117, 110, 100, 95, 98, 121]⟩, ⟨#[99, 104, 111, 105, 99, 101, 115]⟩, ⟨#[103, 97, 116, 104, 101, 114, 101, 100]⟩, ⟨#[104, 111, 108, 100, 115]⟩, ⟨#[113, 117, 97, 110, 116, 105, 102, 105, 101, 100]⟩, ⟨#[110, 117, 109, 98, 101, 114, 95, 111, 102]⟩, ⟨#[111, 114, 100, 101, 114, 115, 95, 111, 102]⟩, ⟨#[101, 113, 117, 97, 108, 95, 115, 116, 97, 116, 101, 115]⟩, ⟨#[101, 97, 114, 108, 105, 101, 114]⟩, ⟨#[109, 111, 118, 101, 100]⟩, ⟨#[114, 117, 110, 95, 111, 118, 101, 114]⟩, ⟨#[115, 116, 97, 114, 116]⟩, ⟨#[104, 97, 108, 118, 101, 115]⟩, ⟨#[101, 120, 101, 99, 117, 116, 101, 100]⟩, ⟨#[101, 120, 101, 99, 117, 116, 101]⟩, ⟨#[116, 114, 117, 116, 104, 95, 114, 111, 119, 115]⟩, ⟨#[116, 114, 117, 116, 104, 115]⟩, ⟨#[118, 97, 108, 117, 101, 95, 114, 111, 119, 115]⟩, ⟨#[118, 97, 108, 117, 101, 115]⟩, ⟨#[99, 111, 117, 110, 116, 115]⟩, ⟨#[119, 105, 116, 104, 95, 107, 110, 111, 119, 110]⟩, ⟨#[82, 79, 85, 78, 68, 83]⟩, ⟨#[79, 78, 69]⟩, ⟨#[84, 87, 79]⟩, ⟨#[70, 97, 109, 105, 108, 121]⟩, ⟨#[108, 111, 111, 107, 95, 97, 116, 95, 116, 114, 101, 101]⟩, ⟨#[108, 111, 111, 107, 95, 97, 116, 95, 115, 116, 111, 99, 107]⟩, ⟨#[105, 115, 95, 115, 104, 111, 119, 110, 95, 97, 116]⟩, ⟨#[107, 110, 111, 119, 110, 95, 105, 110]⟩, ⟨#[118, 97, 108, 117, 101, 95, 97, 116]⟩, ⟨#[115, 105, 110, 103, 108, 101]⟩, ⟨#[109, 101, 116]⟩, ⟨#[98, 108, 101, 110, 100, 101, 100, 95, 114, 111, 119, 115]⟩, ⟨#[98, 108, 101, 110, 100, 101, 100]⟩, ⟨#[97, 108, 119, 97, 121, 115]⟩, ⟨#[99, 111, 109, 112, 97, 114, 101, 100]⟩, ⟨#[115, 112, 97, 110, 95, 111, 102]⟩, ⟨#[83, 116, 97, 110, 100, 105, 110, 103]⟩, ⟨#[115, 117, 99, 99, 101, 115, 115, 111, 114]⟩, ⟨#[116, 114, 101, 101, 95, 119, 111, 114, 100, 115]⟩, ⟨#[98, 111, 117, 110, 100, 95, 119, 111, 114, 100, 115]⟩, ⟨#[97, 115, 115, 105, 103, 110, 101, 100]⟩, ⟨#[114, 117, 108, 101, 100, 95, 110, 97, 109, 101, 115]⟩, ⟨#[112, 108, 97, 99, 101, 95, 111, 102]⟩, ⟨#[108, 111, 111, 107, 95, 97, 116, 95, 100, 101, 101, 100]⟩, ⟨#[108, 111, 111, 107, 95, 97, 116, 95, 114, 117, 108, 101]⟩, ⟨#[103, 111, 111, 100, 95, 99, 108, 97, 117, 115, 101]⟩, ⟨#[108, 111, 111, 107, 95, 97, 116, 95, 103, 117, 97, 114, 100]⟩, ⟨#[117, 115, 101, 100, 95, 119, 111, 114, 100, 115]⟩, ⟨#[114, 101, 115, 116, 101, 100]⟩, ⟨#[97, 102, 116, 101, 114, 95, 100, 101, 101, 100]⟩, ⟨#[103, 97, 116, 104, 101, 114, 105, 110, 103]⟩, ⟨#[115, 101, 116, 116, 108, 101]⟩, ⟨#[108, 101, 115, 115, 101, 114]⟩, ⟨#[111, 118, 101, 114, 108, 97, 112, 115]⟩, ⟨#[109, 111, 118, 101, 100, 95, 112, 105, 101, 99, 101, 115]⟩, ⟨#[119, 105, 116, 104, 95, 112, 97, 115, 116]⟩, ⟨#[102, 97, 105, 108, 105, 110, 103]⟩, ⟨#[108, 111, 111, 107, 95, 97, 116, 95, 103, 117, 97, 114, 100, 115]⟩, ⟨#[97, 108, 105, 107, 101, 95, 102, 97, 109, 105, 108, 105, 101, 115]⟩, ⟨#[97, 108, 105, 107, 101, 95, 115, 116, 97, 110, 100, 105, 110, 103, 115]⟩, ⟨#[73, 78, 68, 69, 78, 84]⟩, ⟨#[66, 69, 70, 79, 82, 69]⟩, ⟨#[112, 97, 103, 101, 95, 116, 101, 120, 116]⟩, ⟨#[115, 116, 101, 112, 95, 108, 105, 110, 101, 115]⟩, ⟨#[114, 101, 97, 100, 95, 115, 116, 101, 112]⟩, ⟨#[105, 115, 95, 104, 101, 97, 100]⟩, ⟨#[105, 115, 95, 108, 105, 109, 105, 116]⟩, ⟨#[114, 101, 97, 100, 95, 100, 101, 101, 100]⟩, ⟨#[114, 101, 97, 100, 95, 116, 114, 101, 101]⟩, ⟨#[114, 101, 97, 100, 95, 103, 117, 97, 114, 100]⟩, ⟨#[115, 101, 99, 111, 110, 100, 95, 108, 105, 110, 101]⟩, ⟨#[105, 115, 95, 112, 97, 105, 114]⟩, ⟨#[87, 111, 114, 108, 100]⟩, ⟨#[114, 101, 112, 101, 97, 116, 95, 115, 116, 101, 112]⟩, ⟨#[95, 108, 97, 119, 95, 112, 101, 110]⟩, ⟨#[95, 108, 97, 119, 95, 100, 114, 97, 119]⟩, ⟨#[95, 108, 97, 119, 95, 112, 105, 99, 107]⟩, ⟨#[95, 108, 97, 119, 95, 115, 104, 117, 102, 102, 108, 101, 100]⟩, ⟨#[95, 108, 97, 119, 95, 119, 111, 114, 100, 115]⟩, ⟨#[95, 108, 97, 119, 95, 101, 114, 114, 111, 114]⟩, ⟨#[95, 108, 97, 119, 95, 105, 116, 101, 109, 95, 101, 114, 114, 111, 114]⟩]
end HF
end
end
section
set_option Elab.async false
set_option linter.all false
set_option maxRecDepth 100000
set_option maxHeartbeats 0
noncomputable section
namespace HG
open PySem PySem.W PySem.Calls PyProof.Rows HK HD HF
theorem lkZ (w : World) (os : OsState) (g : Nat → Obj) : HandSHeadRun.looksF PySem.W.Fast.tw10313853756172224601 (boot_heap w.params) (sE w os g) = true := by kernel_rfl
end HG
end
end
section
set_option Elab.async false
set_option linter.all false
set_option maxRecDepth 100000
set_option maxHeartbeats 0
noncomputable section
namespace HG2
open PySem PySem.W PySem.Calls PyProof.Rows HK HD HF
def pick : List Nat → List Obj → Nat → Option Obj
  | a :: l, o :: r, b => match Nat.beq a b with
    | true => some o
    | false => pick l r b
  | _, _, _ => none
theorem pick_map (g : Nat → Obj) (b : Nat) : ∀ l : List Nat, (pick l (l.map g) b).getD (g b) = g b
  | [] => rfl
  | a :: l => by
    show (match Nat.beq a b with | true => some (g a) | false => pick l (l.map g) b).getD (g b) = g b
    cases e : Nat.beq a b with
    | true =>
      have := Nat.eq_of_beq_eq_true e
      subst this
      rfl
    | false => exact pick_map g b l
theorem snX (w : World) (os : OsState) (g : Nat → Obj) : HandSHeadRun.seenQ q loose (importedModules (PySem.W.Fast.tw10313853756172224601).main.body) (fun s => xlAt q [] s && recOk [] s) (sE w os fun b => (pick KA (GA w) b).getD (g b)) = openGood q loose := by kernel_rfl
theorem snZ (w : World) (os : OsState) (g : Nat → Obj) (e : KA.map g = GA w) : HandSHeadRun.seenQ q loose (importedModules (PySem.W.Fast.tw10313853756172224601).main.body) (fun s => xlAt q [] s && recOk [] s) (sE w os g) = openGood q loose := by
  have z := snX w os g
  have h : (fun b => (pick KA (GA w) b).getD (g b)) = g := by
    funext b
    rw [← e]
    exact pick_map g b KA
  rw [h] at z
  exact z
end HG2
end
end
section
set_option Elab.async false
set_option linter.all false
set_option maxRecDepth 100000
set_option maxHeartbeats 0
noncomputable section
namespace HL
open PySem PySem.W PySem.Calls PyProof.Rows HK
def lOf (p : Program) : OpenLaw := { prog := p, name := "law", about := ["World", "__init__"], foot := 8, most := some 63, bound := none, writes := false }
theorem l_eq : PySem.Challenge.rw_everyname_k73_worlds_begin_empty = lOf PySem.W.Fast.tw10313853756172224601 := by
  show lOf PySem.Challenge.pw_everyname_k73_worlds_begin_empty = _
  rw [PySem.W.Fast.te10313853756172224601]
theorem a1 : sreFenced (PySem.W.Fast.tw10313853756172224601).main = true := by
  rw [PySem.W.Fast.te11788848310118352699]
  kernel_rfl
theorem a2 : ((moduleNames (PySem.W.Fast.tw10313853756172224601).main.body).isEmpty || lookedIntoSs (moduleNames (PySem.W.Fast.tw10313853756172224601).main.body) (PySem.W.Fast.tw10313853756172224601).main.body) = true := by kernel_rfl
theorem a3 : namesResolve PySem.W.Fast.tw10313853756172224601 = true := by
  rw [PySem.W.Fast.te8377067652309620493]
  kernel_rfl
theorem a4 : (PySem.W.Fast.tw10313853756172224601).boundNames.all (fun n => !worldNames.contains n) = true := by kernel_rfl
theorem r0 : readsOut PySem.W.Fast.tw10313853756172224601 (PySem.W.Fast.tw10313853756172224601).main.body "vars" = false := by
  rw [PySem.W.Fast.te13343964577679436407]
  kernel_rfl
theorem r1 : readsOut PySem.W.Fast.tw10313853756172224601 (PySem.W.Fast.tw10313853756172224601).main.body "dir" = false := by
  rw [PySem.W.Fast.te13343964577679436407]
  kernel_rfl
theorem r2 : readsOut PySem.W.Fast.tw10313853756172224601 (PySem.W.Fast.tw10313853756172224601).main.body "locals" = false := by
  rw [PySem.W.Fast.te13343964577679436407]
  kernel_rfl
theorem a5a : ({ strict := !(importedModules (PySem.W.Fast.tw10313853756172224601).main.body).all cThrough.contains, foot := none, bare := (["vars", "dir", "locals"] : List Str).filter (readsOut PySem.W.Fast.tw10313853756172224601 (PySem.W.Fast.tw10313853756172224601).main.body) } : Look) = { strict := false, foot := none, bare := [] } := by
  have e : (["vars", "dir", "locals"] : List Str).filter (readsOut PySem.W.Fast.tw10313853756172224601 (PySem.W.Fast.tw10313853756172224601).main.body) = [] := by
    rw [List.filter_cons_of_neg (by rw [r0]; decide), List.filter_cons_of_neg (by rw [r1]; decide), List.filter_cons_of_neg (by rw [r2]; decide)] <;> rfl
  rw [e]
  kernel_rfl
theorem a5 : noRoadLSs { strict := false, foot := none, bare := [] } (PySem.W.Fast.tw10313853756172224601).main.body = true := by
  rw [PySem.W.Fast.te8326940854005059898]
  kernel_rfl
theorem a6 : namesMeet PySem.W.Fast.tw10313853756172224601 (PySem.W.Fast.tw10313853756172224601).main.body (fun _ n => attrL n) = true := by
  rw [PySem.W.Fast.te17119622794617984870, PySem.W.Fast.te17868728402115742887]
  kernel_rfl
theorem looks : looksOpen PySem.W.Fast.tw10313853756172224601 = true := by
  unfold looksOpen
  refine look_both (look_both (look_both (look_both (look_both a1 a2) a3) a4) ?_) a6
  rw [a5a]
  exact a5
theorem b0 : (lOf PySem.W.Fast.tw10313853756172224601).row.wellSaid = true := by
  unfold OpenRow.wellSaid OpenRow.partSaid
  repeat' with_reducible apply look_both
  · exact looks
  all_goals kernel_rfl
theorem b2 : ((lOf PySem.W.Fast.tw10313853756172224601).footing.all footLine) = true := by
  rw [PySem.W.Fast.te10501279942588096481]
  kernel_rfl
theorem b3 : noClassBlock (lOf PySem.W.Fast.tw10313853756172224601).prog (lOf PySem.W.Fast.tw10313853756172224601).footing = true := by
  rw [PySem.W.Fast.te8179353310426384613]
  kernel_rfl
theorem b6 : noRoadLSs { strict := true, foot := some (lOf PySem.W.Fast.tw10313853756172224601).bound', writes := (lOf PySem.W.Fast.tw10313853756172224601).writes, may := (lOf PySem.W.Fast.tw10313853756172224601).may } (lOf PySem.W.Fast.tw10313853756172224601).footing = true := by
  rw [PySem.W.Fast.te8326940854005059898]
  kernel_rfl
theorem b7 : defStands (lOf PySem.W.Fast.tw10313853756172224601).about (lOf PySem.W.Fast.tw10313853756172224601).above = true := by
  rw [PySem.W.Fast.te9558739934217749035]
  kernel_rfl
theorem b8 : (lOf PySem.W.Fast.tw10313853756172224601).namesIt = true := by
  rw [PySem.W.Fast.te16286561074155671207]
  kernel_rfl
theorem b10 : ((lOf PySem.W.Fast.tw10313853756172224601).bound'.all fun n => !builtinNamed n || (lOf PySem.W.Fast.tw10313853756172224601).about == [n] || !(lOf PySem.W.Fast.tw10313853756172224601).reads n) = true := by kernel_rfl
theorem b17 : namesMeet (lOf PySem.W.Fast.tw10313853756172224601).prog (lOf PySem.W.Fast.tw10313853756172224601).above (fun _ n => !(lOf PySem.W.Fast.tw10313853756172224601).own.contains n) = true := by
  rw [PySem.W.Fast.te17119622794617984870]
  kernel_rfl
theorem b18 : (namesMeet (lOf PySem.W.Fast.tw10313853756172224601).prog (lOf PySem.W.Fast.tw10313853756172224601).footing fun sc n => sc.kind == .module || sc.names.lookup n != some .globalExplicit) = true := by
  rw [PySem.W.Fast.te17119622794617984870]
  kernel_rfl
theorem said : (lOf PySem.W.Fast.tw10313853756172224601).wellSaid = true := by
  unfold OpenLaw.wellSaid
  refine look_both (look_both (look_both (look_both (look_both (look_both (look_both (look_both (look_both (look_both (look_both (look_both (look_both (look_both (look_both (look_both (look_both (look_both ?_ ?_) ?_) ?_) ?_) ?_) ?_) ?_) ?_) ?_) ?_) ?_) ?_) ?_) ?_) ?_) ?_) ?_) ?_
  · exact b0
  · kernel_rfl
  · exact b2
  · exact b3
  · kernel_rfl
  · kernel_rfl
  · exact b6
  · exact b7
  · exact b8
  · kernel_rfl
  · exact b10
  · kernel_rfl
  · kernel_rfl
  · kernel_rfl
  · kernel_rfl
  · kernel_rfl
  · kernel_rfl
  · exact b17
  · exact b18
end HL
end
end
section
end
section
set_option Elab.async false
set_option linter.all false
set_option maxRecDepth 100000
set_option maxHeartbeats 4000000
namespace SO
open PySem PySem.Spec PyProof.Rows L2
section
variable {X : Cx} {CX : CXT} {k : Nat} {f C : Addr} {fd : FuncData} {ps : List Str} {sp : Sp} {ds : List Value} {dvs : List V} {E : XK} {a b : Expr} {pos : Pos} {ta tb : TE}
theorem run_in1 {pins : List (Addr × Obj)} {σ : L2.St} {H : Hp} {s : Shared} {Q : VK} {us : List Value} {vs : List V} (F : FnOk X.prog X.w X.K X.mg X.base CX k f fd ps sp) (hr : Room (k + 1) X.A) (hb : Binds X.K fd ps ds) (hd : Vals dvs ds) (hx : Passes CX X E)
    (I : Inv X pins σ H s) (r : Vals vs us) (h : sp (vs ++ dvs) H Q E) : wpAny (model X.prog X.w) X.A.in1 (call (.ref f) us) (EP X pins σ Q) X.xe s := by
  have r2 : Vals (vs ++ dvs) (us ++ ds) := r.append hd
  have hl : (us ++ ds).length = ps.length := by rw [← r2.length]; exact F.len _ _ _ _ h
  refine wpAny_call (codeAny_mono (F.run X.A.in1 X.stack s H ⟨us, []⟩ (us ++ ds) (vs ++ dvs) Q E hr.in1 I.env0.in1 (hb s us I.kIn hl) r2 h) fun r s' hq => ?_)
  cases r with
  | error e => exact hx pins σ H s e s' I hq
  | ok fl =>
    cases fl with
    | ret u => exact I.after hq
    | next => exact False.elim hq
    | brk => exact False.elim hq
    | cont => exact False.elim hq
theorem inst_at {pins : List (Addr × Obj)} {σ : L2.St} {H : Hp} {s : Shared} {p dx : Addr} {fs : List (Str × V)} (I : Inv X pins σ H s) (h : H p = some (.ins C dx fs)) : ∃ ox od, PySem.W.InstAt s.heap p ox C od := by
  obtain ⟨mA, O, _⟩ := ins_get I.hok h
  obtain ⟨od, J, _⟩ := O.look
  exact ⟨_, od, J⟩
def tIxO (C : Addr) (sp : Sp) (dvs : List V) (E : XK) (ta tb : TE) : TE := fun σ H Q => ta σ H fun x H1 => tb σ H1 fun y H2 => ∃ p dx fs, x = .ref p ∧ H2 p = some (.ins C dx fs) ∧ sp ([.ref p, y] ++ dvs) H2 Q E
theorem pe_ixO (ha : PE X a ta) (hb : PE X b tb) (hs : PySem.W.findIn X.K (.ref C) "__getitem__" = some (some (.ref f))) (hf : PySem.W.fnIn X.K f = true) (hfn : PySem.W.isFn X.K (.ref f) = true) (F : FnOk X.prog X.w X.K X.mg X.base CX k f fd ps sp) (hr : Room (k + 1) X.A)
    (hbd : Binds X.K fd ps ds) (hd : Vals dvs ds) (hx : Passes CX X E) (hsl : ∀ v u, subscripted b true v u = runValue (.builtin "lifetime.subscript" ⟨[v, u], []⟩) := by intro _ _; rfl) : PE X (.Subscript a b pos) (tIxO C sp dvs E ta tb) := by
  refine ⟨fun pins s σ H Q I h => ?_⟩
  refine Subscript_ (thn (ha.run pins s σ H _ I h) fun u s1 ⟨x, H1, I1, rx, q1⟩ => thn (hb.run pins s1 σ H1 _ I1 q1) fun v s2 ⟨y, H2, I2, ry, p, dx, fs, ex, ep, q⟩ => ?_)
  subst ex
  obtain rfl : u = Value.ref p := rx
  obtain ⟨ox, od, J⟩ := inst_at I2 ep
  obtain ⟨m, hF⟩ := I2.fr
  exact PySem.W.sub_K hF I2.ok.mod.kin J hs hf hfn (run_in1 (us := [.ref p, v]) (vs := [.ref p, y]) F hr hbd hd hx I2 (.cons rfl (.cons ry .nil)) q) (hsl _ _)
def rInO (C : Addr) (sp : Sp) (dvs : List V) (E : XK) (g : Bool → Bool) : R2 := fun x y H Q => ∃ p dx fs, y = .ref p ∧ H p = some (.ins C dx fs) ∧ sp ([.ref p, x] ++ dvs) H (fun v H' => ∃ b, v = .bl b ∧ Q (.bl (g b)) H') E
theorem op_inO (hs : PySem.W.findIn X.K (.ref C) "__contains__" = some (some (.ref f))) (hfn : PySem.W.isFn X.K (.ref f) = true) (F : FnOk X.prog X.w X.K X.mg X.base CX k f fd ps sp) (hr : Room k X.A)
    (hbd : Binds X.K fd ps ds) (hd : Vals dvs ds) (hx : Passes CX X E) : OpR X (compareOp .In) (rInO C sp dvs E id) := by
  intro pins s σ H x y v u Q I rx ry h
  obtain ⟨p, dx, fs, rfl, ep, q⟩ := h
  cases ry
  obtain ⟨ox, od, J⟩ := inst_at I ep
  obtain ⟨m, hF⟩ := I.fr
  refine PySem.W.in_K hF I.ok.mod.kin J hs hfn (wpAny_mono (run_fn (us := [.ref p, v]) (vs := [.ref p, x]) F hr hbd hd hx I (.cons rfl (.cons rx .nil)) q) (fun r s' hq => ?_) fun _ _ z => z)
  obtain ⟨z, H', I', rz, b, rfl, q'⟩ := hq
  cases rz
  exact wpAny_truthy_bool ⟨.bl b, H', I', rfl, q'⟩
theorem op_notInO (hs : PySem.W.findIn X.K (.ref C) "__contains__" = some (some (.ref f))) (hfn : PySem.W.isFn X.K (.ref f) = true) (F : FnOk X.prog X.w X.K X.mg X.base CX k f fd ps sp) (hr : Room k X.A)
    (hbd : Binds X.K fd ps ds) (hd : Vals dvs ds) (hx : Passes CX X E) : OpR X (compareOp .NotIn) (rInO C sp dvs E not) := by
  intro pins s σ H x y v u Q I rx ry h
  obtain ⟨p, dx, fs, rfl, ep, q⟩ := h
  cases ry
  obtain ⟨ox, od, J⟩ := inst_at I ep
  obtain ⟨m, hF⟩ := I.fr
  refine PySem.W.notIn_K hF I.ok.mod.kin J hs hfn (wpAny_mono (run_fn (us := [.ref p, v]) (vs := [.ref p, x]) F hr hbd hd hx I (.cons rfl (.cons rx .nil)) q) (fun r s' hq => ?_) fun _ _ z => z)
  obtain ⟨z, H', I', rz, b, rfl, q'⟩ := hq
  cases rz
  exact wpAny_truthy_bool ⟨.bl (!b), H', I', rfl, q'⟩
theorem call_lenO (hs : PySem.W.findIn X.K (.ref C) "__len__" = some (some (.ref f))) (hfn : PySem.W.isFn X.K (.ref f) = true) (F : FnOk X.prog X.w X.K X.mg X.base CX k f fd ps sp) (hr : Room (k + 1) X.A)
    (hbd : Binds X.K fd ps ds) (hd : Vals dvs ds) (hx : Passes CX X E) : CallR X (.builtin "len") (fun xs H Q => ∃ p dx fs, xs = [.ref p] ∧ H p = some (.ins C dx fs) ∧ sp ([.ref p] ++ dvs) H (fun v H' => ∃ n : Int, v = .int n ∧ 0 ≤ n ∧ n < 2 ^ 63 ∧ Q (.int n) H') E) := by
  intro pins s σ H xs us Q I r h
  obtain ⟨p, dx, fs, rfl, ep, q⟩ := h
  obtain ⟨u, rfl, rx⟩ := vals1 r
  cases rx
  obtain ⟨ox, od, J⟩ := inst_at I ep
  refine Calls.call_function_entry kind_len plain_len entry_len (args_len1 _) ?_
  unfold Builtin.«len»
  refine wpAny_bind (m := oneArg "len" _) (wpAny_pure ?_)
  refine wpAny_bind (m := callSpecial? (.ref p) (Str.ofString "__len__")) (PySem.W.special_fn I.kIn J hs (beq_iff_eq.mp hfn) (wpAny_mono (run_in1 (us := [.ref p]) (vs := [.ref p]) F hr hbd hd hx I (.cons rfl .nil) q) (fun r s' hz => ?_) fun _ _ y => y))
  obtain ⟨z, H', I', rz, n, rfl, h0, h1, hq⟩ := hz
  obtain ⟨t, rfl⟩ := rz
  refine wpAny_bind (wpAny_holding (wpAny_pure ?_))
  refine wpAny_bind (wpAny_letGo ?_)
  show wpAny _ _ (if n < 0 then _ else _) _ _ _
  rw [if_neg (by omega)]
  show wpAny _ _ (if n ≥ 2 ^ 63 then _ else _) _ _ _
  rw [if_neg (by omega)]
  exact wpAny_bind (wpAny_mkInt (wpAny_pure ⟨_, rfl, .int n, H', I'.tok _, ⟨_, rfl⟩, hq⟩))
theorem tup_looks {M : Model} {h : Heap} {p : Addr} {its : Array Value} (pl : IsTup h p its) : PySem.W.Looks M h (typeOf (.ref p)) (.type "tuple") := by
  obtain ⟨o, e, hc, _⟩ := pl
  exact fun A Q E s k q => wpAny_typeOf_ref (k _ _ e) (by rw [hc]; exact q)
def rEqO (C : Addr) (sp : Sp) (dvs : List V) (E : XK) (other : V → Hp → Prop) : R2 := fun x y H Q => ∃ p dx fs, x = .ref p ∧ H p = some (.ins C dx fs) ∧ other y H ∧ sp ([.ref p, y] ++ dvs) H (fun v H' => ∃ b, v = .bl b ∧ Q (.bl b) H') E
theorem op_eqO (hs : PySem.W.findIn X.K (.ref C) "__eq__" = some (some (.ref f))) (hfn : PySem.W.isFn X.K (.ref f) = true) (hn : PySem.W.notFirst X.K C (.ref C) = true) (F : FnOk X.prog X.w X.K X.mg X.base CX k f fd ps sp) (hr : Room k X.A)
    (hbd : Binds X.K fd ps ds) (hd : Vals dvs ds) (hx : Passes CX X E) : OpR X (compareOp .Eq) (rEqO C sp dvs E fun y H => ∃ p' dx' fs', y = .ref p' ∧ H p' = some (.ins C dx' fs')) := by
  intro pins s σ H x y v u Q I rx ry h
  obtain ⟨p, dx, fs, rfl, ep, ⟨p', dx', fs', rfl, ep'⟩, q⟩ := h
  cases rx
  cases ry
  obtain ⟨ox, od, J⟩ := inst_at I ep
  obtain ⟨ox', od', J'⟩ := inst_at I ep'
  obtain ⟨m, hF⟩ := I.fr
  show wpAny _ _ (richCompare .Eq _ _) _ _ _
  refine PySem.W.cmp_K (op := .Eq) (tb := .ref C) hr.units0 hF I.ok.mod.kin J J'.type hn hs hfn (wpAny_mono (run_fn (us := [.ref p, .ref p']) (vs := [.ref p, .ref p']) F hr hbd hd hx I (.cons rfl (.cons rfl .nil)) q) (fun r s' hq => ?_) fun _ _ z => z)
  obtain ⟨z, H', I', rz, b, rfl, q'⟩ := hq
  cases rz
  exact ⟨.bl b, H', I', rfl, q'⟩
theorem op_eqT (hs : PySem.W.findIn X.K (.ref C) "__eq__" = some (some (.ref f))) (hfn : PySem.W.isFn X.K (.ref f) = true) (hn : PySem.W.notFirst X.K C (.type "tuple") = true) (F : FnOk X.prog X.w X.K X.mg X.base CX k f fd ps sp) (hr : Room k X.A)
    (hbd : Binds X.K fd ps ds) (hd : Vals dvs ds) (hx : Passes CX X E) : OpR X (compareOp .Eq) (rEqO C sp dvs E fun y H => ∃ p' ys, y = .ref p' ∧ SqT X.K H p' ys) := by
  intro pins s σ H x y v u Q I rx ry h
  obtain ⟨p, dx, fs, rfl, ep, ⟨p', ys, rfl, ep'⟩, q⟩ := h
  cases rx
  cases ry
  obtain ⟨ox, od, J⟩ := inst_at I ep
  obtain ⟨its, r, pl, hz⟩ := I.tuple ep'
  obtain ⟨m, hF⟩ := I.fr
  show wpAny _ _ (richCompare .Eq _ _) _ _ _
  refine PySem.W.cmp_K (op := .Eq) (tb := .type "tuple") hr.units0 hF I.ok.mod.kin J (tup_looks pl) hn hs hfn (wpAny_mono (run_fn (us := [.ref p, .ref p']) (vs := [.ref p, .ref p']) F hr hbd hd hx I (.cons rfl (.cons rfl .nil)) q) (fun r s' hq => ?_) fun _ _ z => z)
  obtain ⟨z, H', I', rz, b, rfl, q'⟩ := hq
  cases rz
  exact ⟨.bl b, H', I', rfl, q'⟩
end
end SO
namespace SO
open PySem PySem.Spec PyProof.Rows L2
def repS (z : PySem.Str) (n : Nat) : PySem.Str := ⟨(List.replicate n z.cps).foldl (· ++ ·) #[]⟩
theorem repS_one (z : PySem.Str) : repS z 1 = z := by
  obtain ⟨c⟩ := z
  show (⟨#[] ++ c⟩ : PySem.Str) = ⟨c⟩
  rw [Array.empty_append]
theorem fold_size (a : Array Nat) : ∀ (n : Nat) (acc : Array Nat), ((List.replicate n a).foldl (· ++ ·) acc).size = acc.size + n * a.size
  | 0, acc => by simp
  | n + 1, acc => by
    rw [List.replicate_succ, List.foldl_cons, fold_size a n, Array.size_append, Nat.succ_mul]
    omega
theorem repS_len (z : PySem.Str) (n : Nat) : (repS z n).length = n * z.length := by
  show ((List.replicate n z.cps).foldl (· ++ ·) #[]).size = n * z.cps.size
  rw [fold_size]
  simp
theorem repS_nil (n : Nat) : repS ⟨#[]⟩ n = ⟨#[]⟩ := by
  unfold repS
  congr 1
  induction n with
  | zero => rfl
  | succ n ih =>
    rw [List.replicate_succ, List.foldl_cons]
    exact ih
section
variable {X : Cx}
theorem op_mulS : OpR X (binaryOp .Mult) (fun x y H Q => ∃ (z : PySem.Str) (n : Nat), x = .str z ∧ y = .int n ∧ z.length * n ≤ 100000 ∧ n ≤ 100000 ∧ Q (.str (repS z n)) H) := by
  intro pins s σ H x y v u Q I rx ry h
  obtain ⟨z, n, rfl, rfl, hz, hn, q⟩ := h
  obtain ⟨t, rfl⟩ := rx
  obtain ⟨t', rfl⟩ := ry
  refine P.mul_str ?_ ?_ ?_ ?_
  · have e63 : (2 ^ 63 : Int) = 9223372036854775808 := rfl
    have h1 : decide ((n : Int) < -(2 ^ 63 : Int)) = false := decide_eq_false (by rw [e63]; omega)
    have h2 : decide ((n : Int) ≥ 2 ^ 63) = false := decide_eq_false (by rw [e63]; omega)
    rw [h1, h2]
    rfl
  · intro h1 _ h3
    have hp : (0 : Int) < n := by omega
    have z1 : (z.length : Int) * n ≤ 100000 := by
      have := Int.ofNat_le.mpr hz
      rwa [Int.natCast_mul] at this
    have e63 : (2 ^ 63 - 1 : Int) = 9223372036854775807 := rfl
    rw [e63] at h3
    have z2 := Int.lt_ediv_add_one_mul_self 9223372036854775807 hp
    have z3 : (9223372036854775807 : Int) / n + 1 ≤ z.length := h3
    have z4 := Int.mul_le_mul_of_nonneg_right z3 (Int.le_of_lt hp)
    omega
  · intro _ _
    show Builtin.Str.tooLong _ = false
    unfold Builtin.Str.tooLong
    rw [Int.toNat_natCast]
    have : z.length * n ≤ sizeLine := by rw [sizeLine_eq]; omega
    simpa using this
  · by_cases h0 : (n : Int) < 1
    · rw [if_pos h0]
      have : n = 0 := by omega
      subst this
      exact ⟨Nat.zero_le _, .str (repS z 0), H, I.tok _, ⟨_, rfl⟩, q⟩
    · rw [if_neg h0]
      by_cases h1 : ((n : Int) == 1 || z.length == 0) = true
      · rw [if_pos h1]
        have e : repS z n = z := by
          rcases Bool.or_eq_true_iff.mp h1 with h | h
          · have : n = 1 := by have := eq_of_beq h; omega
            subst this
            exact repS_one z
          · have hl : z.length = 0 := eq_of_beq h
            obtain ⟨c⟩ := z
            have : c = #[] := Array.eq_empty_of_size_eq_zero hl
            subst this
            exact repS_nil n
        exact ⟨.str z, H, I, ⟨_, rfl⟩, by rw [← e]; exact q⟩
      · rw [if_neg h1]
        refine ⟨?_, .str (repS z n), H, I.tok _, ⟨_, rfl⟩, q⟩
        have e := repS_len z n
        rw [Nat.mul_comm] at e
        show (repS z n).length ≤ sizeLine
        rw [sizeLine_eq]
        omega
end
end SO
end
section
set_option Elab.async false
set_option linter.all false
set_option maxRecDepth 100000
set_option maxHeartbeats 4000000
namespace PySem
namespace EXS
open PySem.W PySem.Calls PyProof.Rows PySem.HandSPX
structure IniTxt (fl qual : Str) (params : Arguments) (body : List Stmt) (sc : Scope) : Prop where
  bind : ∀ (doc pm : Value) (an : Option Addr) (cdv ct a b : Value) (cc : Addr), bindArgs (ksFn "__init__" qual params body sc .none .none doc pm an cdv ct cc) ⟨[a, b], []⟩ = pure [(("self" : Str), a), (fl, b)]
  cell : ∀ y ∈ sc.names, y.2 ≠ .cell
  loc : sc.names.lookup ("self" : Str) = some .local ∧ sc.names.lookup fl = some .local ∧ sc.names.lookup ("super" : Str) = some .globalImplicit ∧ sc.names.lookup ("__class__" : Str) = some .free
  kind : sc.kind = .function ∧ sc.isCoroutine = false ∧ sc.isGenerator = false
  par : ∃ ar, (params.posonlyargs ++ params.args).head? = some ar ∧ ar.arg = "self"
  bd : ∃ q0 q1 q2 q3 q4 q5 r1 r2 r3 r4 txt j pl, body = [.Expr (.Call (.Attribute (.Call (.Name "super" q0) [] [] q1) "__init__" q2) [.Constant (.str txt) j q3] [] q4) q5, .Assign [.Attribute (.Name "self" r1) fl r2] (.Name fl r3) r4] ∧
    ∀ (L a cc : Addr) (cd : Value),
      eval (.Call (.Attribute (.Call (.Name "super" q0) [] [] q1) "__init__" q2) [.Constant (.str txt) j q3] [] q4) (ksEnv qual sc L a cd cc) = (do
        let ov ← attributeBase (.Call (.Name "super" q0) [] [] q1) "__init__" (ksEnv qual sc L a cd cc) (eval (.Call (.Name "super" q0) [] [] q1) (ksEnv qual sc L a cd cc))
        standAt q2.atName
        let (f, first) ← holding [ov] (getMethod ov "__init__" pl)
        callWith q4 f first (backTo q4 (starEach [.Constant (.str txt) j q3] (ksEnv qual sc L a cd cc))) []) ∧
      backTo q4 (starEach [.Constant (.str txt) j q3] (ksEnv qual sc L a cd cc)) = [(false, eval (.Constant (.str txt) j q3) (ksEnv qual sc L a cd cc))] ∧
      interactive (ksEnv qual sc L a cd cc) = false ∧
      swapsWith (.Call (.Attribute (.Call (.Name "super" q0) [] [] q1) "__init__" q2) [.Constant (.str txt) j q3] [] q4) none q5.line (ksEnv qual sc L a cd cc) = pure false ∧
      swapsWith (.Name fl r3) (some (.Attribute (.Name "self" r1) fl r2)) r4.line (ksEnv qual sc L a cd cc) = pure false
structure SupTxt (prog : Program) (K : Frag) (mg : Str → Option Value) (nm fl : Str) (C fI : Addr) : Prop where
  gC : mg nm = some (.ref C)
  cls : ∃ nm' q N bs bm sn sub ab col dd k0 k1 k2 k3 k5, K.lookup C = some (excClassObj nm' q C N bs bm true sn sub ab col dd k0 k1 k2 k3 k5 "ValueError.__new__") ∧ refsVE bm = true ∧ ∃ l, (((Value.ref C :: bm).dropWhile (· != .ref C)).drop 1) = l ∧ alongIn K "__init__" l = some (some (.builtin "ValueError.__init__"))
  sa : findIn K (.ref C) "__setattr__" = some (some (.builtin "object.__setattr__"))
  ga : findIn K (.ref C) "__getattribute__" = some (some (.builtin "BaseException.__getattribute__"))
  gg : findIn K (.ref C) "__getattr__" = some none
  noN : findIn K (.ref C) fl = some none
  iC : findIn K (.ref C) "__init__" = some (some (.ref fI))
  tC : typeIn K (.ref fI) = some (.type "function")
  kC : keepIn K (.ref C) = true
  exC : subIn K (.ref C) (.type "BaseException") = some true
  veC : subIn K (.ref C) (.type "ValueError") = some true
  ownC : mroIn K C (.ref C) = some true
  tyC : typeIn K (.ref C) = some (.type "type")
  hdC : hasDictIn K C = true
  tp : nsIn K cStatics "thirdparty.any" = some none
  noS : mg "super" = none
  topS : (prog.main.scope.names.lookup ("super" : Str)).isSome = false
  neS : (fl == ("self" : Str)) = false ∧ (fl == ("super" : Str)) = false ∧ (fl == ("__class__" : Str)) = false ∧ (fl == ("__debug__" : Str)) = false
  fn : ∃ (oc : Value) (od : Option Addr) (qual : Str) (params : Arguments) (body : List Stmt) (sc : Scope) (doc pm : Value) (an : Option Addr) (cda cc : Addr) (ct : Value) (osl : Array (Option Value)) (ccl cl : Value) (cdd cld : Option Addr) (vs : Array Value) (ccs csl : Array (Option Value)) (file : Str) (tf : Tok),
    K.lookup fI = some ⟨oc, od, .func (ksFn "__init__" qual params body sc .none .none doc pm an (.ref cda) ct cc), osl⟩ ∧ codeIn K (.ref cda) qual = true ∧ IniTxt fl qual params body sc ∧
    K.lookup cda = some ⟨ccl, cdd, .fields vs, ccs⟩ ∧ vs[2]? = some (.str file tf) ∧ ((prog.main.file : Str) == file) = true ∧ K.lookup cc = some ⟨cl, cld, .cell (some (.ref C)), csl⟩
structure InitEnd (fl : Str) (h h' : Heap) (x C dx t1 : Addr) (v : Value) : Prop where
  keep : ∀ b o, b ≠ x → h.get? b = some o → h'.get? b = some o
  obj : h'.get? x = some { cls := .ref C, dict := some dx, data := .fields #[.ref t1, .none, .none, .none, .bool false, .none] }
  dbig : h.objs.size ≤ dx
  dne : dx ≠ x
  ns : h'.Ns1 dx (fun y => if y = fl then some v else none)
structure OwnMade (fl : Str) (h h' : Heap) (e C d : Addr) (v : Value) : Prop where
  keep : ∀ b o, h.get? b = some o → h'.get? b = some o
  new : h.objs.size ≤ e
  obj : ∃ oe vs, h'.get? e = some oe ∧ oe.cls = .ref C ∧ oe.dict = some d ∧ oe.data = .fields vs ∧ vs[1]? = some .none
  dbig : h.objs.size ≤ d
  dne : d ≠ e
  ns : h'.Ns1 d (fun y => if y = fl then some v else none)
section
variable {prog : Program} {w : World} {A : Around} {E : Value → Shared → Prop} {s : Shared}
theorem call_mw {B newId i : String} {bmB : List Value} {nm q : Str} {C N : Addr} {bs bm : List Value} {hdct : Bool} {sn : List Str} {sub : List Value} {ab : Bool} {col : Option Bool} {dd : Option Addr} {k0 k1 k2 k3 k5 : Option Value} {u x t : Addr} {rest : List Value} {Q : Value → Shared → Prop}
    (FB : ExcBaseFacts B newId i bmB) (hC : s.heap.get? C = some (excClassObj nm q C N bs bm hdct sn sub ab col dd k0 k1 k2 k3 k5 newId)) (hu : s.heap.get? u = some (kxs_mw i x)) (he : s.heap.get? x = some (excO C t)) (hz : rest.length ≤ sizeLine)
    (h : ∀ t' h', (∀ b o, b ≠ x → s.heap.get? b = some o → h'.get? b = some o) → h'.get? x = some (excO C t') → Q .none { s with heap := h' }) :
    wpAny (model prog w) A (call (.ref u) rest) Q E s := by
  obtain ⟨hh, g, d, tk, os⟩ := s
  refine wpAny_call (codeAny_of_tree ?_)
  show wpAny _ A.in1 (callAny (.ref u) ⟨rest, []⟩) _ _ _
  simp only [callAny]
  refine wpAny_bind (wpAny_load hu ?_)
  simp only [kxs_mw, show (Value.type "method-wrapper" == Value.type "method" || Value.type "method-wrapper" == Value.type "builtin_function_or_method" || Value.type "method-wrapper" == Value.type "method-wrapper") = true by decide, if_true]
  refine KFB.if_so (by decide) ?_
  refine wpAny_bind (check_bound_init FB.toExcCallFacts hC he rfl ?_)
  refine wpAny_bind (wpAny_pure (wpAny_pure ?_))
  refine ⟨plainId_quiet FB.init.plain _, codeAny_builtin FB.initEntry ?_⟩
  exact exc_init_tree (cls := .ref C) (t0 := t) (dv := none) (c2 := .none) (c3 := .none) (b4 := .bool false) he hz fun h' k e' _ => h _ h' k e'
theorem sup_init {K : Frag} {mg mb : Str → Option Value} {nm fl : Str} {C fI : Addr} {R : Result → Shared → Prop} (T : SupTxt prog K mg nm fl C fI) {x t0 : Addr} {v : Value} (X : K.In s.heap) (G : s.heap.Ns mainGlobals mg) (Bt : s.heap.Ns builtinsNs mb) (hmb : mb "super" = some (.type "super"))
    (hlim : s.heap.NoLimit) (hx : s.heap.get? x = some (excO C t0)) (hnx : K.lookup x = none) (hroom : A.depth < recursionLimit)
    (hq : ∀ h' tk dx t1, InitEnd fl s.heap h' x C dx t1 v → R (.ok (.ret .none)) { s with heap := h', toks := tk }) :
    codeAny (model prog w) A (.call (.ref fI) ⟨[.ref x, v], []⟩) R s := by
  obtain ⟨oc, od, qual, params, body, sc, doc, pm, an, cda, cc, ct, osl, ccl, cl, cdd, cld, vs, ccs, csl, file, tf, hfn, hcd, IT, hcda, hvs, hfile, hcc⟩ := T.fn
  obtain ⟨nm', q, N, bs, bm, sn, sub, ab, col, dd, k0, k1, k2, k3, k5, hC, hbm, l, hl, hal⟩ := T.cls
  obtain ⟨n1, n2, n3, n4⟩ := T.neS
  have hcl : clsIn K C = some { name := nm', bases := bs, mro := .ref C :: bm, ns := N, qualname := q, hasDict := true, slotNames := sn, subclasses := sub, abstract := ab, collection := col, hasDel := false } := by unfold clsIn; rw [hC] <;> rfl
  obtain ⟨q0, q1, q2, q3, q4, q5, r1, r2, r3, r4, txt, j, pl, hbd, hE⟩ := IT.bd
  obtain ⟨l1, l2, l3, l4⟩ := IT.loc
  obtain ⟨ki, kco, kge⟩ := IT.kind
  obtain ⟨ar, hp, har⟩ := IT.par
  refine ks_codeAny_call_defAt (binds := [(("self" : Str), .ref x), (fl, v)]) hroom (X _ _ hfn) rfl hlim (codeRec_of X hcd) rfl (BindsTo.of_eq (IT.bind ..)) IT.cell ?_ (fun h₁ hns hk₁ => ?_) kco kge ki
  · intro y hy
    simp only [List.mem_cons, List.not_mem_nil, or_false] at hy
    rcases hy with rfl | rfl
    · exact l1
    · exact l2
  · have X₁ : K.In h₁ := X.keeps hk₁
    have hx₁ := hk₁ _ _ hx
    have hxL : s.heap.objs.size ≠ x := Nat.ne_of_gt (Heap.lt_size hx)
    obtain ⟨e1, e2, e3, e4, e5⟩ := hE s.heap.objs.size fI cc (.ref cda)
    show _root_.PySem.wpAt (model prog w) (A.deeper (ksEnv qual sc s.heap.objs.size fI (.ref cda) cc)) (.func body (ksEnv qual sc s.heap.objs.size fI (.ref cda) cc)) (execs body (ksEnv qual sc s.heap.objs.size fI (.ref cda) cc)) _ _ _
    have hfl : ([(("self" : Str), Value.ref x), (fl, v)].reverse.lookup fl) = some v := by simp [List.lookup]
    have hsf : ([(("self" : Str), Value.ref x), (fl, v)].reverse.lookup ("self" : Str)) = some (.ref x) := by
      have z : (("self" : Str) == fl) = false := by
        rw [beq_eq_false_iff_ne] at n1 ⊢
        exact Ne.symm n1
      simp [List.lookup, z]
    subst hbd
    obtain ⟨oC, hoC, hdC⟩ : ∃ oC, h₁.get? C = some oC ∧ oC.data = .cls { name := nm', bases := bs, mro := .ref C :: bm, ns := N, qualname := q, hasDict := true, slotNames := sn, subclasses := sub, abstract := ab, collection := col, hasDel := false } := ⟨_, X₁ _ _ hC, rfl⟩
    refine ks_wpAt_execs_cons (ks_wpAt_Expr_any (ks_wpAt_MethodCall (pl := pl) ?_ e1) e3 e4)
    refine ks_wpAt_super_base (env := ksEnv qual sc s.heap.objs.size fI (.ref cda) cc) l3 l4 (by decide) rfl (X₁ _ _ hfn) rfl hp rfl (X₁ _ _ hcda) rfl hvs hfile T.topS ?_
    refine ks_loadName_global ki l3 (loadGlobal_builtin (G.keeps hk₁) T.noS (Bt.keeps hk₁) hmb ⟨rfl, ?_⟩)
    refine wpAny_loadName_free ki l4 rfl ⟨_, X₁ _ _ hcc, rfl⟩ ?_
    rw [har]
    refine wpAny_loadName_local ki l1 hns hsf ?_
    refine ks_wpAny_isType_cls hoC hdC ⟨rfl, ?_⟩
    refine ks_wpAny_call_super hoC hdC hx₁ rfl (fun c e => by cases e) (looks_mroIn X₁ T.ownC) (fun h₂ e k₂ => ?_)
    have X₂ : K.In h₂ := X₁.keeps k₂
    have hx₂ := k₂ _ _ hx₁
    have I₂ : InstAt h₂ x (excO C t0) C none := ⟨hx₂, rfl, rfl, trivial⟩
    refine kxs_getMethod kxs_ValueError e (looks_opaque X₂ T.tp) (l₀ := .ref C :: bm) ?_ hl X₂ hal (I₂.type.andThen (looks_subIn X₂ T.veC)) (ks_ne X₂ I₂ hcl) (by decide) ?_
    · exact fun A Q E s k q => wpAny_bind ((looks_clsIn X₂ hcl) A _ E s k (wpAny_pure q))
    · rw [e2]
      have hu : (h₂.push (kxs_mw "ValueError.__init__" x)).get? h₂.objs.size = some (kxs_mw "ValueError.__init__" x) := Heap.get?_push_at rfl rfl
      have k₃ : ∀ b o, h₂.get? b = some o → (h₂.push (kxs_mw "ValueError.__init__" x)).get? b = some o := fun b o e => Heap.get?_push_of_some _ e
      refine kxs_callWith (i := "ValueError.__init__") (x := x) rfl (evalArgs_plain ?_)
      refine spliced_cons (Calls.Constant_str ?_)
      refine spliced_nil ?_
      refine ⟨hu, ?_⟩
      refine call_mw F.excBase_ValueError (k₃ _ _ (X₂ _ _ hC)) hu (k₃ _ _ hx₂) (by show 1 ≤ sizeLine; decide) (fun t4 h₄ k₄ hx₄ => ?_)
      have K₄ : ∀ b o, b ≠ x → s.heap.get? b = some o → h₄.get? b = some o := fun b o hb e => k₄ b o hb (k₃ b o (k₂ b o (hk₁ b o e)))
      have X₄ : K.In h₄ := fun a o e => K₄ a o (fun z => by rw [z, hnx] at e; cases e) (X a o e)
      have hn₄ : h₄.Ns s.heap.objs.size (fun y => [(("self" : Str), Value.ref x), (fl, v)].reverse.lookup y) := by
        obtain ⟨oL, es, ep, hL, r⟩ := hns
        exact ⟨oL, es, ep, k₄ _ _ hxL (k₃ _ _ (k₂ _ _ hL)), r⟩
      refine wpAt_of_wpAny (wpAny_execs_cons (plainObj_wpAny_Assign_Attribute ?_ e5))
      refine wpAny_Name (wpAny_loadName_local ki l2 hn₄ hfl ?_) n4
      refine wpAny_Name (wpAny_loadName_local ki l1 hn₄ hsf ?_) (by decide)
      refine set_plain X₄ (ox := excO C t4) (od := none) ⟨hx₄, rfl, rfl, trivial⟩ T.sa ?_
      refine exc_osa X₄ hx₄ hcl (show refsVE (.ref C :: bm) = true from hbm) rfl T.noN (fun h₅ tk₅ dx k₅ dn dne hx₅ hn₅ => ?_)
      show wpAny _ _ (execs _ _) _ _ _
      exact wpAny_execs_nil (hq h₅ tk₅ dx t4 ⟨fun b o hb e => k₅ b o hb (K₄ b o hb e), hx₅, Nat.le_trans (Nat.le_of_lt hn₄.lt) dn, dne, hn₅⟩)
theorem one_size (v : Value) : [v].length ≤ sizeLine := by
  rw [sizeLine_eq]
  exact (by decide : 1 ≤ 16777216)
theorem sup_made {K : Frag} {mg mb : Str → Option Value} {nm fl : Str} {C fI : Addr} {R : Result → Shared → Prop} (T : SupTxt prog K mg nm fl C fI) {v : Value} (X : K.In s.heap) (G : s.heap.Ns mainGlobals mg) (Bt : s.heap.Ns builtinsNs mb) (hmb : mb "super" = some (.type "super"))
    (hlim : s.heap.NoLimit) (hroom : A.depth + 1 < recursionLimit)
    (hq : ∀ h' tk e d, OwnMade fl s.heap h' e C d v → R (.ok (.ret (.ref e))) { s with heap := h', toks := tk }) :
    codeAny (model prog w) A (.call (.ref C) ⟨[v], []⟩) R s := by
  obtain ⟨nm', q, N, bs, bm, sn, sub, ab, col, dd, k0, k1, k2, k3, k5, hC, hbm, _⟩ := T.cls
  obtain ⟨hp, g, dr, tk, os⟩ := s
  have k : ∀ b o, hp.get? b = some o → ((hp.push (kdv_tup [v])).push (excO C hp.objs.size)).get? b = some o := fun b o e => Heap.get?_push_of_some _ (Heap.get?_push_of_some _ e)
  have hget : ((hp.push (kdv_tup [v])).push (excO C hp.objs.size)).get? (hp.objs.size + 1) = some (excO C hp.objs.size) := by heap_get
  have hnx : K.lookup (hp.objs.size + 1) = none := by
    cases e : K.lookup (hp.objs.size + 1) with
    | none => rfl
    | some o =>
      have z : hp.get? (hp.objs.size + 1) = some o := X _ _ e
      exact absurd (Nat.lt_of_succ_lt (Heap.lt_size z)) (Nat.lt_irrefl _)
  refine call_own F.excBase_ValueError (fun X => refsVE_contains X bm hbm) (X _ _ hC) (looks_findIn X T.iC) (fun self => bind_fn X self T.tC) (one_size v) ?_
  refine sup_init (s := ⟨(hp.push (kdv_tup [v])).push (excO C hp.objs.size), g, dr, tk, os⟩) T (X.keeps k) (G.keeps k) (Bt.keeps k) hmb (hlim.keeps k) hget hnx ?_ fun h' tk' dx t1 ⟨k', hx, dn, dne, hns⟩ => ?_
  · show A.depth + 1 < recursionLimit
    exact hroom
  · have old : ∀ b o, hp.get? b = some o → h'.get? b = some o := fun b o e => k' b o (Nat.ne_of_lt (Nat.lt_succ_of_lt (Heap.lt_size e))) (k b o e)
    have z : hp.objs.size + 1 + 1 ≤ dx := by
      first
        | (simpa only [Heap.size_push] using dn)
        | exact dn
        | (have q := dn; rw [Heap.size_push, Heap.size_push] at q; exact q)
    exact ⟨rfl, hq h' tk' (hp.objs.size + 1) dx ⟨old, Nat.le_succ _, ⟨_, _, hx, rfl, rfl, rfl, rfl⟩, Nat.le_trans (Nat.le_trans (Nat.le_succ _) (Nat.le_succ _)) z, dne, hns⟩⟩
end
end EXS
end PySem
namespace EXS
open PySem PySem.Spec PyProof.Rows L2 PySem.EXS
theorem relO_f {fl : Str} {v : V} {v' : Value} (r : RelV v v') (f : Str) : RelO (List.lookup f [(fl, v)]) (if f = fl then some v' else none) := by
  by_cases hw : f = fl
  · subst hw
    rw [if_pos rfl]
    have q : List.lookup f [(f, v)] = some v := by simp [List.lookup]
    rw [q]
    exact r
  · rw [if_neg hw]
    have qw : (f == fl) = false := by simpa using hw
    have q2 : List.lookup f [(fl, v)] = none := by simp [List.lookup, qw]
    rw [q2]
    trivial
section
variable {X : Cx} {C fI : Addr} {nm fl : Str}
def tMk1 (fl : Str) (C : Addr) (ta : TA) : L2.St → Hp → XK → Prop := fun σ H Q => ta σ H fun vs H1 => ∃ v, vs = [v] ∧ ∀ d, H1 d = none → Q (.ref C) (some d) (upd H1 d (.xd [(fl, v)]))
theorem pmk_sup {a : Expr} {ta : TA} {p pos : Pos} {k : Nat} (T : SupTxt X.prog X.K X.mg nm fl C fI) (hr : Room k X.A) (ha : PA X [a] ta) (hg : Gl X nm := by rfl) (hdb : (nm == ("__debug__" : Str)) = false := by decide)
    (he : starEach (a :: []) X.env = (false, eval a X.env) :: starEach [] X.env := by rfl) (hpl : (backTo pos (starEach [] X.env)).any (·.1) = false := by rfl) :
    PMk X (.Call (.Name nm p) [a] [] pos) (tMk1 fl C ta) := by
  intro pins s σ H Q I h
  refine wpAny_Call_Name_kw (ld_glob I hg T.gC ?_ hdb)
  refine PySem.W.callWith_K (h₀ := X.base) I.ok.mod.kin T.kC (thn (ha.run pos pins s σ H _ I h) fun us s1 hh => ?_) he hpl
  obtain ⟨vs, H1, I1, r1, v, ev, q1⟩ := hh
  subst ev
  refine ⟨I1.kIn, ?_⟩
  cases r1 with
  | cons rv rn =>
    rename_i v' us'
    cases rn
    show wpAny _ _ (call (.ref C) [v']) _ _ _
    have hlim := I1.nolimit
    obtain ⟨mb, b1, b2⟩ := I1.mod.blt
    have G1 := I1.mod.glob.keeps I1.bk
    have B1 := b1.keeps I1.bk
    have hmb : mb "super" = some (.type "super") := (b2 _ (by decide)).trans (by first | boot_by_name | rfl | kernel_rfl)
    obtain ⟨hp, g, dr, tk, os⟩ := s1
    refine wpAny_call (sup_made T I1.kIn G1 B1 hmb hlim (by have := hr.dp; omega) fun h' tk' e d M => ?_)
    show MkP X pins σ Q (.ref e) ⟨h', g, dr, tk', os⟩
    obtain ⟨oe, fv, hoe, hc, hd, hdat, h1⟩ := M.obj
    have hns := M.ns
    obtain ⟨G', g1, g2⟩ := restrict h' fun b => decide (b ≠ e)
    have gk : ∀ b, b ≠ e → G'.get? b = h'.get? b := fun b hb => g1 b (decide_eq_true hb)
    have ge : G'.get? e = none := g2 e (by simp)
    have old : ∀ b o, hp.get? b = some o → G'.get? b = some o := fun b o q => (gk b (Nat.ne_of_lt (Nat.lt_of_lt_of_le (Heap.lt_size q) M.new))).trans (M.keep b o q)
    have ob : ObjOk X.prog X.w (upd H1 d (.xd [(fl, v)])) G' d (.xd [(fl, v)]) :=
      ⟨_, hns.at (fun o q => (gk d M.dne).trans q), fun f => relO_f rv f⟩
    have J : Inv X pins σ (upd H1 d (.xd [(fl, v)])) ⟨G', g, dr, tk', os⟩ := I1.laid (t' := tk') old M.dbig ob
    refine ⟨e, oe, fv, ⟨G', g, dr, tk', os⟩, _, .ref C, some d, rfl, J, fun b o q => ?_, ge, hoe, ⟨hc, hd⟩, hdat, h1, ?_, rfl, I1.bare, raises_own T.exC T.tyC, q1 d (I1.hok.fresh M.dbig)⟩
    · by_cases hb : b = e
      · have q' : G'.get? b = some o := q
        rw [hb, ge] at q'; cases q'
      · exact (gk b hb).symm.trans q
    · rw [upd_ne (Ne.symm M.dne)]
      exact I1.hok.fresh M.new
def tRaise1 (fl : Str) (C : Addr) (W : WX) (ta : TA) : TS := fun _ σ H => tMk1 fl C ta σ H fun cls d H' => W cls d σ H'
theorem ps_raise1 {a : Expr} {ta : TA} {W : WX} {p pos pos2 : Pos} {k : Nat} (hc : X.calm = true) (T : SupTxt X.prog X.K X.mg nm fl C fI) (hr : Room k X.A) (tk : Takes X W) (ha : PA X [a] ta) (hg : Gl X nm := by rfl) (hdb : (nm == ("__debug__" : Str)) = false := by decide)
    (he : starEach (a :: []) X.env = (false, eval a X.env) :: starEach [] X.env := by rfl) (hpl : (backTo pos (starEach [] X.env)).any (·.1) = false := by rfl) :
    PS X (.Raise (some (.Call (.Name nm p) [a] [] pos)) none pos2) (tRaise1 fl C W ta) := ps_raise hc tk (pmk_sup T hr ha hg hdb he hpl)
def tBy1 (fl : Str) (C : Addr) (a : Addr) (cls : Value) (d : Option Addr) (te : TE) : TE := fun σ H Q => te σ H fun x H1 => x = .ref a ∧ cls = .ref C ∧ ∃ (dd : Addr) (v : V), d = some dd ∧ H1 dd = some (.xd [(fl, v)]) ∧ Q v H1
theorem pe_by1 {a : Addr} {oe : Obj} {cls : Value} {d : Option Addr} {pn : List (Addr × Obj)} {e : Expr} {te : TE} {pos : Pos} (T : SupTxt X.prog X.K X.mg nm fl C fI) (hz : Zc cls d oe) (hf : ∃ vs, oe.data = .fields vs) (he : PE (X.suite a ((a, oe) :: pn)) e te)
    (hb : attributeBase e fl X.env (eval e X.env) = eval e X.env := by rfl) :
    PE (X.suite a ((a, oe) :: pn)) (.Attribute e fl pos) (tBy1 fl C a cls d te) := by
  refine ⟨fun pins s σ H Q I h => ?_⟩
  refine attr_of hb (thn (he.run pins s σ H _ I h) fun u s1 hh => ?_)
  obtain ⟨x, H1, I1, rx, ex, ec, dd, v, ed, ea, q⟩ := hh
  subst ex
  obtain rfl : u = Value.ref a := rx
  subst ec
  subst ed
  obtain ⟨ha, _⟩ := I1.pin (a, oe) (List.mem_append_left _ List.mem_cons_self)
  obtain ⟨vs, hd⟩ := hf
  have hx : ObjOk X.prog X.w H1 s1.heap dd (.xd [(fl, v)]) := I1.hok dd _ ea
  obtain ⟨mA, hns, hr⟩ := hx
  obtain ⟨od, ho, hl⟩ := lookIn_ns hns
  have l : List.lookup fl [(fl, v)] = some v := by simp [List.lookup]
  obtain ⟨u, hu, ru⟩ := RelO.some_of (v := v) (o := mA fl) (by rw [← l]; exact hr fl)
  have J : PySem.W.InstAt s1.heap a oe C (some od) := ⟨ha, hz.1, by unfold PySem.W.notCls; rw [hd] <;> rfl, by rw [hz.2]; exact ho⟩
  exact PySem.HandSPX.exc_get I1.kIn J T.ga T.gg T.exC (PySem.W.findObj_own T.hdC T.noN rfl (by rw [hl, hu])) (handed_of ru) ⟨v, H1, I1.tok _, ru, q⟩
end
end EXS
end
section
set_option Elab.async false
set_option linter.all false
set_option maxRecDepth 100000
set_option maxHeartbeats 4000000
namespace TN
open PySem PySem.Spec PyProof.Rows L2
abbrev Cl := Value × Option Nat × (Addr → Value → Option Addr → TS)
def outs (D : Ends) : Option Nat → Ends
  | none => D
  | some i => { nx := fun σ' H' => D.nx (σ'.set i none) H', rt := D.rt, bk := fun σ' H' => D.bk (σ'.set i none) H', ct := fun σ' H' => D.ct (σ'.set i none) H' }
def ins (a : Addr) (σ : L2.St) : Option Nat → L2.St
  | none => σ
  | some i => σ.set i (some (.ref a))
def wN (K : PySem.W.Frag) (Wout : WX) (D : Ends) : List Cl → WX
  | [] => Wout
  | c :: r => fun cls d σ H => ∃ b, PySem.W.exmOne K cls c.1 = some b ∧ (b = true → ∀ a, H a = none → c.2.2 a cls d (outs D c.2.1) (ins a σ c.2.1) H) ∧ (b = false → wN K Wout D r cls d σ H)
inductive HdOk (X : Cx) : ExceptHandler → Cl → Prop
  | bare {x : Str} {c : Value} {ts : Addr → Value → Option Addr → TS} {b₀ : Stmt} {suite : List Stmt} {np p : Pos} (hc : Names X x c)
      (hsu : ∀ (a : Addr) (oe : Obj) (cls : Value) (d : Option Addr) (pn : List (Addr × Obj)), Zc cls d oe → (∃ vs, oe.data = .fields vs) → PSs (X.suite a ((a, oe) :: pn)) (b₀ :: suite) (ts a cls d)) :
      HdOk X (.ExceptHandler (some (.Name x np)) none (b₀ :: suite) p) (c, none, ts)
  | named {x n : Str} {i : Nat} {c : Value} {ts : Addr → Value → Option Addr → TS} {b₀ : Stmt} {suite : List Stmt} {np p : Pos} (hi : X.N[i]? = some n) (hl : X.env.kindOf n = some .local) (hc : Names X x c)
      (hsu : ∀ (a : Addr) (oe : Obj) (cls : Value) (d : Option Addr) (pn : List (Addr × Obj)), Zc cls d oe → (∃ vs, oe.data = .fields vs) → PSs (X.suite a ((a, oe) :: pn)) (b₀ :: suite) (ts a cls d)) :
      HdOk X (.ExceptHandler (some (.Name x np)) (some n) (b₀ :: suite) p) (c, some i, ts)
inductive HdsN (X : Cx) : List ExceptHandler → List Cl → Prop
  | nil : HdsN X [] []
  | cons {h : ExceptHandler} {c : Cl} {hs : List ExceptHandler} {l : List Cl} (a : HdOk X h c) (r : HdsN X hs l) : HdsN X (h :: hs) (c :: l)
section
variable {X : Cx} {pos : Pos} {Wout : WX}
theorem ps_try_n {body : List Stmt} {h₀ : ExceptHandler} {hds : List ExceptHandler} {l : List Cl} {tb : WX → TS} (hs : X.stack = X.env :: X.outer) (hf : X.env.frame = some X.env.locals) (hN : X.N.Nodup) (tk : Takes X Wout)
    (hb : ∀ (W : WX) (pn : List (Addr × Obj)) (xe : Value → Shared → Prop), Takes (X.tr pn xe) W → PassesOwn (model X.prog X.w) X.A X.env xe → PSs (X.tr pn xe) body (tb W))
    (hh : HdsN X (h₀ :: hds) l) : PS X (.Try body (h₀ :: hds) [] [] pos) (fun D σ H => tb (wN X.K Wout D l) D σ H) := by
  refine ⟨fun pins s σ H D I h => ?_⟩
  have ok := I.ok
  have fr0 : X.A.frames = some (X.env :: X.outer) := by rw [ok.frames, hs]
  refine wpAny_Try_except (wpAny_mono ((hb (wN X.K Wout D l) (X.pn ++ pins) (fun e s₁ => wpAny (model X.prog X.w) X.A (noteFrame e X.env) (fun _ s₂ => wpAny (model X.prog X.w) X.A (setFlight e none) (fun _ s₃ =>
    wpAny (model X.prog X.w) X.A (handleBy e X.env (h₀ :: hds)) (SP X pins D) X.xe s₃) X.xe s₂) X.xe s₁) (fun u s' xx => ?cat) PassesOwn.looking).run [] s σ H D (I.toTry _) h) (fun f s1 hsp => ?fin) (fun e s1 he => he))
  case cat =>
    obtain ⟨a, B, sI, pins', σ', H', cls, d, rfl, J', nb, up, sky, na, os, ag, w⟩ := xx
    have J : Inv X pins σ' H' sI := J'.ofTry ok
    show wpAny (model X.prog X.w) X.A (noteFrame (.ref a) X.env) _ _ _
    refine Sky.land Zc.steady fr0 hf (by rw [← hs]; exact sky) fun h3 fl3 up3 => ?_
    have J3 : Inv X pins σ' H' { s' with heap := h3 } := J.landed nb fl3.1 (up.trans up3) os ag
    obtain ⟨oe3, vs3, he3, hz3, hd3⟩ := fl3.there
    have nfr : a ∉ frs (X.env :: X.outer) := fun hm => by
      obtain ⟨_, o', e', hnf⟩ := fl3.2.2.1.mem hm
      rw [he3] at e'
      cases e'
      exact hnf _ hd3
    have nL : a ≠ X.env.locals := fun z => nfr (List.mem_filterMap.mpr ⟨X.env, List.mem_cons_self, by rw [hf, z]⟩)
    have nF : a ∉ X.fs := fun hm => by
      obtain ⟨e, he, q⟩ := List.mem_filterMap.mp hm
      exact nfr (List.mem_filterMap.mpr ⟨e, List.mem_cons_of_mem _ he, q⟩)
    have S3 := J3.suite he3 hd3 na nL nF
    have goes : ∀ {hds' : List ExceptHandler} {l' : List Cl}, HdsN X hds' l' → wN X.K Wout D l' cls d σ' H' →
        wpAny (model X.prog X.w) X.A (handleBy (.ref a) X.env hds') (SP X pins D) X.xe { s' with heap := h3 } := by
      intro hds' l' hk
      induction hk with
      | nil =>
        intro w
        refine wpAny_handleBy_nil ?_
        obtain ⟨_, _, _, oe, vs, T, oT, ts', he, hz, hd, h1, hr⟩ := id fl3
        unfold PySem.passOn
        refine wpAny_bind (wpAny_field he hd h1 ?_)
        rw [if_neg (show ¬ ((Value.ref T == Value.none) = true) from by simp)]
        have last : wpAny (model X.prog X.w) X.A (setFlight (.ref a) X.env.frame) (fun _ s4 => wpAny (model X.prog X.w) X.A (throw (.ref a) : Sem Flow) (SP X pins D) X.xe s4) X.xe { s' with heap := h3 } := by
          rw [hf]
          refine PySem.HandSPX.setFlight_upZ fl3 fun h4 hh4 up4 => wpAny_throw (tk _ _ ?_)
          exact ⟨a, B, sI, pins, σ', H', cls, d, rfl, J, nb, (up.trans up3).trans up4, .inr (.inr (by rw [hs]; exact hh4)), na, os, ag, w⟩
        first
          | exact wpAny_bind (wpAny_pure (wpAny_bind last))
          | exact wpAny_bind last
      | @cons hd cl hds2 l2 hd1 r ih =>
        intro w
        obtain ⟨b, hb1, hyes, hno⟩ := w
        have LT : PySem.W.Looks (model X.prog X.w) h3 (typeOf (.ref a)) cls := fun A Q E s k q => wpAny_typeOf_ref (k _ _ he3) (by rw [hz3.1]; exact q)
        have LM := PySem.W.exm_one (M := model X.prog X.w) (J3.kIn) LT hb1
        have test : ∀ {x : Str} {np : Pos} {Q : Value → Shared → Prop} {E : Value → Shared → Prop}, Names X x cl.1 → Q cl.1 { s' with heap := h3 } → wpAny (model X.prog X.w) (X.A.mark (some (.ref a))) (eval (.Name x np) X.env) Q E { s' with heap := h3 } := fun {x np Q E} hc q => by
          obtain ⟨hg, hdbg, hm | ⟨hm, hv, hnn⟩⟩ := hc
          · exact ld_glob (X := X.suite a ((a, oe3) :: (X.pn ++ pins))) S3 hg hm q hdbg
          · exact ld_blt (X := X.suite a ((a, oe3) :: (X.pn ++ pins))) S3 hg hm hv q hnn hdbg
        cases hd1 with
        | bare hc hsu =>
          refine wpAny_handleBy_cons (codeAny_handlers_test ?_) (by intro q; cases q)
          refine test hc (LM.here ?_)
          cases b with
          | false => exact ih (hno rfl)
          | true =>
            refine codeAny_handlers_suite ?_
            refine PySem.HandSPX.lands_againZ fl3 fun h4 fl4 up4 => ?_
            have J4 : Inv X pins σ' H' { s' with heap := h4 } := J.landed nb fl4.1 ((up.trans up3).trans up4) os ag
            obtain ⟨oe4, vs4, he4, hz4, hd4⟩ := fl4.there
            have S4 := J4.suite he4 hd4 na nL nF
            refine wpAny_mono ((hsu a oe4 cls d (X.pn ++ pins) hz4 ⟨_, hd4⟩).run [] _ _ H' _ S4 (hyes rfl a na)) (fun f s6 hsp => ?_) (fun _ _ z => False.elim z)
            cases f with
            | ret u => obtain ⟨v6, σ6, H6, S6, r6, q6⟩ := hsp; exact ⟨_, _, _, S6.unsuite ok, r6, q6⟩
            | next | brk | cont => obtain ⟨σ6, H6, S6, q6⟩ := hsp; exact ⟨_, _, S6.unsuite ok, q6⟩
        | @named x n i c ts b₀ suite np p hi hln hc hsu =>
          refine wpAny_handleBy_cons (codeAny_handlers_test ?_) (by intro q; cases q)
          refine test hc (LM.here ?_)
          cases b with
          | false => exact ih (hno rfl)
          | true =>
            refine codeAny_handlers_suite_as ?_
            refine PySem.HandSPX.lands_againZ fl3 fun h4 fl4 up4 => ?_
            have J4 : Inv X pins σ' H' { s' with heap := h4 } := J.landed nb fl4.1 ((up.trans up3).trans up4) os ag
            obtain ⟨oe4, vs4, he4, hz4, hd4⟩ := fl4.there
            have S4 := J4.suite he4 hd4 na nL nF
            refine store_ok (X := X.suite a ((a, oe4) :: (X.pn ++ pins))) (v := .ref a) S4 hN hi (.inl hln) rfl (fun s5 S5 => ?_) (.inr hln)
            refine wpAny_mono ((hsu a oe4 cls d (X.pn ++ pins) hz4 ⟨_, hd4⟩).run [] s5 _ H' _ S5 (hyes rfl a na)) (fun f s6 hsp => ?_) (fun _ _ z => False.elim z)
            have close : ∀ {σ6 : L2.St} {H6 : Hp} {Q : Shared → Prop}, Inv (X.suite a ((a, oe4) :: (X.pn ++ pins))) [] σ6 H6 s6 → (∀ s7, Inv X pins (σ6.set i none) H6 s7 → Q s7) →
                wpAny (model X.prog X.w) X.A (do bindName X.env n .none; unbindBehindTheSuite X.env n p) (fun _ s7 => Q s7) X.xe s6 := fun {σ6 H6 Q} S6 hq => gone_ok (S6.unsuite ok) hN hi hln hq
            cases f with
            | ret u => obtain ⟨v6, σ6, H6, S6, r6, q6⟩ := hsp; exact close S6 fun s7 J7 => ⟨_, _, _, J7, r6, q6⟩
            | next | brk | cont => obtain ⟨σ6, H6, S6, q6⟩ := hsp; exact close S6 fun s7 J7 => ⟨_, _, J7, q6⟩
    exact goes hh w
  case fin =>
    cases f with
    | next => obtain ⟨σ', H', J', q⟩ := hsp; exact wpAny_execs_nil ⟨σ', H', J'.ofTry ok, q⟩
    | brk | cont => obtain ⟨σ', H', J', q⟩ := hsp; exact ⟨σ', H', J'.ofTry ok, q⟩
    | ret u => obtain ⟨v, σ', H', J', r, q⟩ := hsp; exact ⟨v, σ', H', J'.ofTry ok, r, q⟩
end
end TN
end
section
set_option Elab.async false
set_option linter.all false
set_option maxRecDepth 100000
set_option maxHeartbeats 4000000
namespace DS
open PySem PySem.Spec PyProof.Rows L2
open Sem (wp)
theorem display (m k v : Sem Value) : dictDisplay [(none, m), (some k, v)] = (do
    let d ← alloc { cls := .type "dict", data := .dict #[] }
    let x ← holding [.ref d] m
    (((holding [.ref d, x] (mergeMapping d x false)).onRaise fun y => do let _ ← holding [.ref d, x, y] (runValue (.builtin "proto.let_go" {}))).tryCatch fun e => do
        if ← isInstance e (.type "AttributeError") then
          rule "dict.display.not-a-mapping"; raiseError "TypeError" s!"'{← typeNameOf x}' object is not a mapping"
        throw e).onRaise fun y => do let _ ← holding [.ref d, y] (runValue (.builtin "proto.let_go" {}))
    let sub ← holding [.ref d] (subDict [(k, v)])
    (holding [.ref d, .ref sub] (mergeMapping d (.ref sub) false)).onRaise fun y => do let _ ← holding [.ref d, y] (runValue (.builtin "proto.let_go" {}))
    pure (.ref d)) := by
  unfold dictDisplay
  simp
section
variable {prog : Program} {w : World} {K : Type} [DecidableEq K] {knd : KeyKind prog w K} {A : Around} {E : Value → Shared → Prop} {s : Shared}
theorem put_pairs {d : Addr} {kvs : List (K × Value)} {k : K} {key v : Value} {Q : Unit → Shared → Prop} (hkey : knd.is k key = true) (hm : s.heap.DictOf knd d kvs) (hsz : kvs.length ≤ sizeLine)
    (hQ : ∀ h', h'.DictOf knd d (stored kvs k v) → Heap.SameBut d s.heap h' → Q () { s with heap := h' }) : wpAny (model prog w) A (dictPut d (knd.hash k) key v) Q E s := by
  obtain ⟨o, es, ep, ho, hc, hd, hk, hp, hn⟩ := hm
  have le : es.size = kvs.length := by rw [← hp.length]; simp
  have hidx : (es.findIdx? fun e => knd.is k e.key) = kvs.findIdx? fun kv => decide (kv.1 = k) := by
    rw [← hp.findIdx k]
    obtain ⟨l⟩ := es
    simp
  unfold dictPut
  refine wpAny_bind (wpAny_dictFind_of hkey ho hd hk ?_)
  cases hi : es.findIdx? fun e => knd.is k e.key with
  | some i =>
    have an := any_of_findIdx_some (hidx ▸ hi)
    refine wpAny_updateDict ho hd (hQ _ ⟨_, _, ep, Heap.get?_update_self _ ho (Obj.isFreed_of_dict (Obj.data_mapDict hd _)), hc.mapDict _, Obj.data_mapDict hd _, hk.modify _ _, ?_, ?_⟩ (Heap.SameBut.update ..))
    · have hl : (es.toList.findIdx? fun e => knd.is k e.key) = some i := by
        rw [← hi]
        obtain ⟨l⟩ := es
        simp
      have z := hp.modify hn hl v
      rw [stored, if_pos an]
      obtain ⟨l⟩ := es
      simpa using z
    · rw [stored, if_pos an, keys_map_store]
      exact hn
  | none =>
    have hnot : k ∉ kvs.map (·.1) := not_mem_of_findIdx_none (hidx ▸ hi)
    have hany : ¬ (kvs.any fun kv => decide (kv.1 = k)) = true := fun z => by
      obtain ⟨kv, hkv, he⟩ := List.any_eq_true.mp z
      exact hnot (List.mem_map.mpr ⟨kv, hkv, of_decide_eq_true he⟩)
    refine wpAny_updateDictKeys (hz := by omega) ho hd (hQ _ ⟨_, _, ep + 1, Heap.get?_update_self _ ho (Obj.isFreed_of_dict (Obj.data_mapDictKeys hd _)), hc.mapDictKeys _, Obj.data_mapDictKeys hd _, hk.push hkey _, ?_, ?_⟩ (Heap.SameBut.update ..))
    · have z := hp.append hkey (knd.hash k) v
      rw [stored, if_neg hany]
      obtain ⟨l⟩ := es
      simpa using z
    · rw [stored, if_neg hany, List.map_append, List.nodup_append]
      refine ⟨hn, by simp, fun a ha b hb e => ?_⟩
      simp only [List.map_cons, List.map_nil, List.mem_singleton] at hb
      exact hnot (hb ▸ e ▸ ha)
theorem merged_len (acc : List (K × Value)) : ∀ kvs : List (K × Value), (merged acc kvs).length ≤ acc.length + kvs.length := fun kvs => by
  induction kvs generalizing acc with
  | nil => exact Nat.le_refl _
  | cons p r ih =>
    have q := ih (stored acc p.1 p.2)
    have q2 := stored_length_le acc p.1 p.2
    show (merged (stored acc p.1 p.2) r).length ≤ _
    rw [List.length_cons]
    omega
theorem pairs_at {es : List DictEntry} {kvs : List (K × Value)} (h : Pairs knd es kvs) : ∀ {i : Nat} {e : DictEntry}, es[i]? = some e → ∃ k, kvs[i]? = some (k, e.val) ∧ knd.is k e.key = true := by
  induction h with
  | nil => intro i e h; simp at h
  | @cons e0 kv es kvs h1 h2 _ ih =>
    intro i e hi
    cases i with
    | zero =>
      simp at hi
      subst hi
      exact ⟨kv.1, by simp [h2], h1⟩
    | succ i =>
      simp at hi
      simpa using ih hi
theorem merge_of {d a : Addr} {acc kvs : List (K × Value)} {Q : Unit → Shared → Prop} (hd : s.heap.DictOf knd d acc) (ha : s.heap.DictOf knd a kvs) (da : a ≠ d) (na : (a == sysModules) = false) (hz : acc.length + kvs.length ≤ sizeLine)
    (hq : ∀ h', h'.DictOf knd d (merged acc kvs) → Heap.SameBut d s.heap h' → Q () { s with heap := h' }) : wpAny (model prog w) A (mergeMapping d (.ref a) false) Q E s := by
  obtain ⟨oa, ea, epa, hoa, hca, hda, hka, hpa, hna⟩ := id ha
  obtain ⟨od, ed, epd, hod, hcd, hdd, hkd, hpd, hnd⟩ := id hd
  have hT : s.TypeIs (.ref a) "dict" := ⟨oa, hoa, hca.1⟩
  have loop : wpAny (model prog w) A (do
      let x ← dictEntries a
      let size : Nat := x.size
      let epoch ← dictEpoch a
      forIn (List.range size) PUnit.unit fun i _ => do
        let x ← dictEntries a
        match x[i]? with
        | some e => do
          holding [e.key, e.val] (dictPut d e.hash e.key e.val)
          let y ← dictEpoch a
          if (y != epoch) = true then do
            unsupported "dict.changed-during-merge"
            pure (ForInStep.yield PUnit.unit)
          else pure (ForInStep.yield PUnit.unit)
        | _ => do
          unsupported "dict.changed-during-merge"
          pure (ForInStep.yield PUnit.unit)
      pure ()) Q E s := by
    refine wpAny_bind (wpAny_dictEntries hoa hda ?_)
    refine wpAny_bind (wpAny_dictEpoch hoa hda ?_)
    refine wpAny_bind (wpAny_forIn_list _ (fun rest _ s' => ∃ i, rest = (List.range ea.size).drop i ∧ i ≤ ea.size ∧ s'.heap.DictOf knd d (merged acc (kvs.take i)) ∧ Heap.SameBut d s.heap s'.heap ∧ s' = { s with heap := s'.heap }) _ ?_ ?_ _ _ ⟨0, rfl, Nat.zero_le _, hd, Heap.SameBut.refl _ _, rfl⟩)
    · rintro j rest b s' ⟨i, hr, hi, hD, hS, hs'⟩
      have lt : i < ea.size := by
        rcases Nat.lt_or_ge i ea.size with z | z
        · exact z
        · rw [List.drop_of_length_le (by simpa using z)] at hr
          cases hr
      rw [List.drop_eq_getElem_cons (by simpa using lt)] at hr
      injection hr with hj hrest
      obtain rfl : j = i := by simpa using hj
      have hoa' : s'.heap.get? a = some oa := (hS.2 a da).trans hoa
      have ge : ea[j]? = some ea[j] := Array.getElem?_eq_getElem lt
      obtain ⟨k, hk1, hk2⟩ := pairs_at hpa (i := j) (e := ea[j]) (by simpa using ge)
      obtain ⟨k', hk3, hk4⟩ := hka ea[j] (Array.getElem_mem lt)
      have hkk := knd.inj _ _ _ hk2 hk3
      subst hkk
      refine wpAny_bind (wpAny_dictEntries hoa' hda ?_)
      rw [ge]
      dsimp only
      refine wpAny_bind (wpAny_holding ?_)
      rw [hk4]
      have ml : (merged acc (kvs.take j)).length ≤ sizeLine := by
        have q := merged_len acc (kvs.take j)
        have q2 : (kvs.take j).length ≤ kvs.length := by rw [List.length_take]; exact Nat.min_le_right ..
        omega
      refine put_pairs hk2 hD ml fun h' hD' hS' => ?_
      refine wpAny_bind (wpAny_dictEpoch (s := { s' with heap := h' }) ((hS'.2 a da).trans hoa') hda ?_)
      rw [if_neg (by simp)]
      refine wpAny_pure ⟨j + 1, hrest, lt, ?_, hS.trans hS', ?_⟩
      · rw [merged_take_succ acc kvs j _ hk1]
        exact hD'
      · show ({ s' with heap := h' } : Shared) = _
        rw [hs']
    · rintro b s' ⟨i, hr, hi, hD, hS, hs'⟩
      have e : i = ea.size := by
        have z := congrArg List.length hr
        simp only [List.length_nil, List.length_drop, List.length_range] at z
        omega
      have l : kvs.length = ea.size := by rw [← hpa.length]; simp
      rw [e, ← l, List.take_length] at hD
      refine wpAny_pure ?_
      rw [hs']
      exact hq _ hD hS
  unfold mergeMapping
  refine wpAny_bind (m := isInstance (.ref a) (.type "dict")) (wpAny_isInstance hT isSubtype_dict_dict ?_)
  rw [if_pos rfl]
  refine wpAny_bind (wpAny_specialOf hT F.slot_dict_iter.lookup ?_)
  refine wpAny_bind (wpAny_pure ?_)
  show wpAny (model prog w) A (if (a == sysModules) = true then _ else _) Q E s
  rw [if_neg (by rw [na]; exact Bool.false_ne_true)]
  refine wpAny_bind (wpAny_dictEntries hod hdd ?_)
  by_cases hemp : ed.isEmpty = true
  · rw [if_pos hemp]
    refine wpAny_bind (wpAny_dictEntries hoa hda ?_)
    refine wpAny_bind (wpAny_forIn_array' _ (fun rest _ s' => s' = s ∧ ∀ e ∈ rest, e ∈ ea) _ ?_ ?_ _ _ ⟨rfl, fun e he => by simpa using he⟩)
    · rintro e rest b s' ⟨rfl, hall⟩
      obtain ⟨k, hk, _⟩ := hka e (hall e List.mem_cons_self)
      have cv := knd.byValue _ _ hk
      have go : ∀ {t : Sem (ForInStep PUnit)}, (match e.key with | .ref _ => t | _ => pure (ForInStep.yield PUnit.unit)) = pure (ForInStep.yield PUnit.unit) := fun {t} => by
        cases hkey : e.key <;> first | rfl | (rw [hkey] at cv; cases cv)
      have go2 := @go
      split
      · rename_i x hx
        rw [hx] at cv
        cases cv
      · exact wpAny_pure ⟨rfl, fun x hx => hall x (List.mem_cons_of_mem _ hx)⟩
    · rintro b s' ⟨rfl, _⟩
      exact loop
  · rw [if_neg hemp]
    exact loop
end
section
variable {X : Cx} {a k v : Expr} {ta tk tv : TE} {pos : Pos}
def tDStar (ta tk tv : TE) : TE := fun σ H Q => ∀ p, H p = none → ta σ (upd H p (.dK [])) fun x H1 => ∃ (d : Addr) (kvs : List (Key × V)), x = .ref d ∧ d ≠ p ∧ H1 d = some (.dK kvs) ∧ H1 p = some (.dK []) ∧ kvs.length ≤ 100000 ∧
  ∀ q, (upd H1 p (.dK (mergeK [] kvs))) q = none → tk σ (upd (upd H1 p (.dK (mergeK [] kvs))) q (.dK [])) fun kx H2 => tv σ H2 fun vx H3 => H3 q = some (.dK []) ∧ H3 p = some (.dK (mergeK [] kvs)) ∧ ∃ key : Key, kx = kV key ∧
    Q (.ref p) (upd (upd H3 q (.dK [(key, vx)])) p (.dK (mergeK (mergeK [] kvs) [(key, vx)])))
theorem pe_dstar (hu : X.A.units + 1 < cLine) (ha : PE X a ta) (hk : PE X k tk) (hv : PE X v tv) : PE X (.Dict [none, some k] [a, v] pos) (tDStar ta tk tv) := by
  refine ⟨fun pins s σ H Q I h => ?_⟩
  rw [arm_eval_Dict]
  show wpAny _ _ (do standAt pos; dictDisplay [(none, do let x ← eval a X.env; standAt pos; pure x), (some (eval k X.env), do let x ← eval v X.env; standAt pos; pure x)]) _ _ _
  rw [display]
  refine wpAny_bind (wpAny_standAt (wpAny_bind (wpAny_alloc ?_)))
  have hn := I.hok.fresh (Nat.le_refl s.heap.objs.size)
  have I1 := I.laid (a := s.heap.objs.size) (o := .dK []) (h' := s.heap.push { cls := .type "dict", data := .dict #[] }) (t' := s.toks) (fun _ _ q => Heap.get?_push_of_some _ q) (Nat.le_refl _) (dk_empty s.heap I.big)
  refine wpAny_bind (wpAny_holding (wpAny_bind (thn (ha.run pins _ σ _ _ I1 (h _ hn)) fun u s2 ⟨x, H1, I2, rx, d, kvs, ex, dp, ed, ep, hz, q⟩ => wpAny_bind (wpAny_standAt (wpAny_pure ?_)))))
  subst ex
  obtain rfl : u = Value.ref d := rx
  obtain ⟨z1, hd1, vs1, r1, dd1⟩ := dk_of I2.hok ed
  obtain ⟨z0, hd0, vs0, r0, dd0⟩ := dk_of I2.hok ep
  cases r0
  refine wpAny_bind (wpAny_onRaise (wpAny_tryCatch (wpAny_onRaise (wpAny_holding (merge_of dd0 dd1 dp hd1 (by have := r1.length; rw [List.length_nil, ← r1.length, sizeLine_eq]; omega) fun h' dd' hs => ?_)))))
  have ml : (mergeK [] kvs).length ≤ 100000 := by
    have h1 := length_mergeK kvs []
    rw [List.length_nil] at h1
    omega
  have he : ∃ q, h'.get? s.heap.objs.size = some q := let ⟨q, _, _, hq, _⟩ := dd'; ⟨q, hq⟩
  have I3 := d_write (t' := s2.toks) I2 (by rw [ep]; exact True.intro) hs he (dk_new (H' := upd H1 s.heap.objs.size (.dK (mergeK [] kvs))) (by rw [sizeLine_eq]; omega) hd0 (r1.merge .nil) dd')
  have hq0 := I3.hok.fresh (Nat.le_refl h'.objs.size)
  have I4 := I3.laid (a := h'.objs.size) (o := .dK []) (h' := h'.push { cls := .type "dict", data := .dict #[] }) (t' := s2.toks) (fun _ _ q => Heap.get?_push_of_some _ q) (Nat.le_refl _) (dk_empty h' I3.big)
  refine wpAny_bind (wpAny_holding (wpAny_subDict (knd := mixKind X.prog X.w) (by show 1 ≤ 15; decide) ?_))
  refine evalPairs_cons (thn (hk.run pins _ σ _ _ I4 (q _ hq0)) fun ku s4 ⟨kx, H4, I5, rk, q4⟩ => wpAny_bind (thn (hv.run pins _ σ _ _ I5 q4) fun vu s5 ⟨vx, H5, I6, rv, eq, ep5, key, ek, q5⟩ => wpAny_bind (wpAny_standAt (wpAny_pure (evalPairs_nil ?_)))))
  subst ek
  obtain ⟨_, hdq, vsq, rq, ddq⟩ := dk_of I6.hok eq
  cases rq
  refine ⟨[(key, vu)], ⟨kV_is rk, rfl, True.intro⟩, ddq, fun h6 dd6 hs6 => ?_⟩
  have hkv : KV [(key, vx)] [(key, vu)] := .cons ⟨rfl, rv⟩ .nil
  have he6 : ∃ q, h6.get? h'.objs.size = some q := let ⟨q, _, _, hq, _⟩ := dd6; ⟨q, hq⟩
  have pq : s.heap.objs.size ≠ h'.objs.size := by
    obtain ⟨o, hq⟩ := he
    exact Nat.ne_of_lt (Heap.lt_size hq)
  have I7 := d_write (t' := s5.toks + 1) I6 (by rw [eq]; exact True.intro) hs6 he6 (dk_new (H' := upd H5 h'.objs.size (.dK [(key, vx)])) (by rw [sizeLine_eq]; show 1 ≤ 16777216; omega) hdq (hkv.merge .nil) dd6)
  have ep7 : (upd H5 h'.objs.size (.dK [(key, vx)])) s.heap.objs.size = some (.dK (mergeK [] kvs)) := by rw [upd_ne pq]; exact ep5
  obtain ⟨_, hd7, vs7, r7, dd7⟩ := dk_of I7.hok ep7
  have ml6 : (mergeK (mergeK [] kvs) [(key, vx)]).length ≤ 100001 := by
    have h1 := length_mergeK [(key, vx)] (mergeK [] kvs)
    rw [List.length_singleton] at h1
    omega
  refine wpAny_bind (wpAny_onRaise (wpAny_holding (merge_of (a := h'.objs.size) (kvs := [(key, vu)]) dd7 ?_ (Ne.symm pq) hdq (by rw [← r7.length, List.length_singleton, sizeLine_eq]; omega) fun h8 dd8 hs8 => ?_)))
  · exact dd6
  have he8 : ∃ q, h8.get? s.heap.objs.size = some q := let ⟨q, _, _, hq, _⟩ := dd8; ⟨q, hq⟩
  refine wpAny_pure ⟨.ref s.heap.objs.size, _, d_write I7 (by rw [ep7]; exact True.intro) hs8 he8 (dk_new (H' := upd (upd H5 h'.objs.size (.dK [(key, vx)])) s.heap.objs.size (.dK (mergeK (mergeK [] kvs) [(key, vx)]))) (by rw [sizeLine_eq]; omega) hd7 (hkv.merge r7) dd8), rfl, q5⟩
end
end DS
end
section
set_option Elab.async false
set_option linter.all false
set_option maxRecDepth 100000
set_option maxHeartbeats 4000000
namespace FK
open PySem PySem.Spec PyProof.Rows L2
abbrev FR := L2.FnR
def Cal (P : Program) (w : World) (K : PySem.W.Frag) (mg : PySem.Str → Option Value) (base : Heap) (CX : CXT) (k : Nat) (x : PySem.Str) (sp : Sp) : Prop :=
  ∃ f, L2.FnR P w K mg base CX k f sp ∧ mg x = some (.ref f) ∧ PySem.W.keepIn K (.ref f) = true
def CalM (P : Program) (w : World) (K : PySem.W.Frag) (mg : PySem.Str → Option Value) (base : Heap) (CX : CXT) (k : Nat) (C : Addr) (m : PySem.Str) (sp : Sp) : Prop :=
  ∃ f, L2.FnR P w K mg base CX k f sp ∧ Meth K C m f
def CalP (P : Program) (w : World) (K : PySem.W.Frag) (mg : PySem.Str → Option Value) (base : Heap) (CX : CXT) (k : Nat) (C : Addr) (m : PySem.Str) (sp : Sp) : Prop :=
  ∃ p g fd ps, FnOk P w K mg base CX k g fd ps sp ∧ Binds K fd ps [] ∧ PropOf K C m p g
def CalC (P : Program) (w : World) (K : PySem.W.Frag) (mg : PySem.Str → Option Value) (base : Heap) (CX : CXT) (k : Nat) (x : PySem.Str) (C : Addr) (sp : Sp) : Prop :=
  ∃ f, L2.FnR P w K mg base CX k f sp ∧ Mk K C f ∧ mg x = some (.ref C)
section
variable {X : Cx} {CX : CXT} {k : Nat} {C : Addr} {sp : Sp} {E : XK} {x m : PySem.Str} {p pos apos : Pos} {e o : Expr} {es : List Expr} {ta : TE} {t : TA}
theorem pe_c (c : Cal X.prog X.w X.K X.mg X.base CX k x sp) (hr : Room k X.A) (hg : Gl X x) (hx : Passes CX X E) (ha : PA X (e :: es) t) (hdb : (x == ("__debug__" : PySem.Str)) = false := by decide)
    (he : starEach (e :: es) X.env = (false, eval e X.env) :: starEach es X.env := by rfl) (hpl : (backTo pos (starEach es X.env)).any (·.1) = false := by rfl) :
    PE X (.Call (.Name x p) (e :: es) [] pos) (fun σ H Q => t σ H fun vs H1 => sp vs H1 Q E) := by
  obtain ⟨f, F, hm, hk⟩ := c
  refine ⟨fun pins s σ H Q I h => ?_⟩
  refine wpAny_Call_Name_kw (ld_glob I hg hm ?_ hdb)
  refine PySem.W.callWith_K (h₀ := X.base) I.ok.mod.kin hk (thn (ha.run pos pins s σ H _ I h) fun us s1 ⟨vs, H1, I1, r, q⟩ => ⟨I1.kIn, ?_⟩) he hpl
  exact wpAny_call (run_fnR F hr hx I1 r q)
theorem pe_c0 (c : Cal X.prog X.w X.K X.mg X.base CX k x sp) (hr : Room k X.A) (hg : Gl X x) (hx : Passes CX X E) (hdb : (x == ("__debug__" : PySem.Str)) = false := by decide) :
    PE X (.Call (.Name x p) [] [] pos) (fun σ H Q => sp [] H Q E) := by
  obtain ⟨f, F, hm, hk⟩ := c
  refine ⟨fun pins s σ H Q I h => ?_⟩
  refine wpAny_Call_Name_kw (ld_glob I hg hm ?_ hdb)
  exact PySem.W.callWith_K0 I.kIn hk (wpAny_call (run_fnR (us := []) F hr hx I .nil h))
theorem pe_m {pl : Sem Bool} (he : PE X o ta) (c : Cls X.K C) (cm : CalM X.prog X.w X.K X.mg X.base CX k C m sp) (hr : Room k X.A) (hx : Passes CX X E) (ha : PA X (e :: es) t)
    (hst : starEach (e :: es) X.env = (false, eval e X.env) :: starEach es X.env := by rfl) (hpl : (backTo pos (starEach es X.env)).any (·.1) = false := by rfl)
    (ht : eval (.Call (.Attribute o m apos) (e :: es) [] pos) X.env = (do
      let ov ← eval o X.env
      standAt apos.atName
      let (f, first) ← holding [ov] (getMethod ov m pl)
      callWith pos f first (backTo pos (starEach (e :: es) X.env)) (backToKw pos (keywordEach [] X.env))) := by rfl) :
    PE X (.Call (.Attribute o m apos) (e :: es) [] pos) (fun σ H Q => ta σ H fun x H1 => ∃ a dx fs, x = .ref a ∧ H1 a = some (.ins C dx fs) ∧ fs.lookup m = none ∧ t σ H1 fun vs H2 => sp (x :: vs) H2 Q E) := by
  obtain ⟨f, F, hm⟩ := cm
  refine ⟨fun pins s σ H Q I h => ?_⟩
  refine PySem.W.methodCall_KW (pl := pl) (thn (he.run pins s σ H _ I h) fun u s1 ⟨x, H1, I1, rx, a, dx, fs, ex, ea, l, q⟩ => ?_) ht
  subst ex
  obtain rfl : u = Value.ref a := rx
  refine getmeth_ok I1 ea c hm l ?_
  refine PySem.W.callWith_K (first := [.ref a]) (h₀ := X.base) I.ok.mod.kin hm.kp (thn (ha.run pos pins s1 σ H1 _ I1 q) fun us s2 ⟨vs, H2, I2, r, q2⟩ => ⟨I2.kIn, ?_⟩) hst hpl
  exact wpAny_call (run_fnR (us := .ref a :: us) (vs := .ref a :: vs) F hr hx I2 (.cons rfl r) q2)
theorem pe_p (he : PE X o ta) (c : Cls X.K C) (cp : CalP X.prog X.w X.K X.mg X.base CX k C m sp) (hr : Room (k + 1) X.A) (hx : Passes CX X.nox E)
    (hab : attributeBase o m X.env (eval o X.env) = eval o X.env := by rfl) : PE X (.Attribute o m pos) (tProp C sp [] E ta) := by
  obtain ⟨p, g, fd, ps, F, hb, hp⟩ := cp
  exact pe_prop he c hp F hr hb .nil hx hab
theorem pe_mk (c : CalC X.prog X.w X.K X.mg X.base CX k x C sp) (hr : Room (k + 1) X.A) (hg : Gl X x) (hx : Passes CX X E) (ha : PA X (e :: es) t) (hdb : (x == ("__debug__" : PySem.Str)) = false := by decide)
    (he : starEach (e :: es) X.env = (false, eval e X.env) :: starEach es X.env := by rfl) (hpl : (backTo pos (starEach es X.env)).any (·.1) = false := by rfl) : PE X (.Call (.Name x p) (e :: es) [] pos) (StX.tMakeR C sp E t) := by
  obtain ⟨f, F, M, hm⟩ := c
  exact StX.pe_makeR M F hr hg hm hx ha hdb he hpl
def gAttr (K : PySem.W.Frag) (ta : TE) (f : PySem.Str) : TG := fun y σ H Q => ta σ H fun x H2 => ∃ a C dx fs, x = .ref a ∧ H2 a = some (.ins C dx fs) ∧ Cls K C ∧ NoAttr K C f ∧ fs.length < 1000 ∧ Q σ (upd H2 a (.ins C dx (putF f y fs)))
theorem pg_attr {f : PySem.Str} (ha : PE X o ta) : PG X (.Attribute o f pos) (gAttr X.K ta f) := by
  refine ⟨fun pins s σ H v u Q I ry h => ?_⟩
  rw [assign_Attribute]
  refine wpAny_bind (wpAny_holding (thn (ha.run pins s σ H _ I h) fun ov s2 ⟨x, H2, I2, rx, a, C, dx, fs, ex, ea, c, n, l, q2⟩ => wpAny_bind (wpAny_standAt (wpAny_bind (wpAny_holding ?_)))))
  subst ex
  obtain rfl : ov = Value.ref a := rx
  exact setattr_ok I2 ea c n l ry fun s3 I3 => wpAny_release ⟨σ, _, I3, q2⟩
end
section
variable {J : It} {n : Nat} {G : Hp → Prop} {Y : Nat → Hp → V → Hp → Prop}
theorem same_upd {H H' : Hp} {D : Addr} {o : HO} (h : H D = none) (s : Same H H') : Same H (upd H' D o) := fun b u e => by
  rw [upd_ne (ne_of_none e h)]
  exact s b u e
theorem lc_pure (wk : L2.Walk J n G Y) {xs : List V} {i : Nat} {te : TE} {σ : L2.St} {H1 : Hp} {D : Addr} {Qd : Hp → Prop} (f : V → V) (hY : ∀ i H x H', Y i H x H' → H' = H ∧ xs[i]? = some x) (hn : xs.length = n) (hz : n ≤ 100000) (hD : H1 D = none)
    (hG : ∀ H', Same H1 H' → G H')
    (he : ∀ x ∈ xs, ∀ H', Same H1 H' → ∀ Q : VK, (∀ H'', Same H' H'' → Q (f x) H'') → te ((wipe σ [i]).set i (some x)) H' Q)
    (hd : ∀ H', Same H1 H' → H' D = some (.lst (xs.map f)) → Qd H') :
    ∃ W : Nat → Nat → Hp → Prop, (∃ m, W 0 m (upd H1 D (.lst []))) ∧ ∀ j m H, W j m H →
      (J.stop j H ∧ Qd H) ∨ (J.go j H ∧ ∃ Nx : Hp → Prop, (∀ H', Nx H' → ∃ m', m' < m ∧ W (j + 1) m' H') ∧ ∀ x H', J.yld j H x H' → gName i x (wipe σ [i]) H' fun σ2 H2 => wipe σ2 [i] = wipe σ [i] ∧ tYes σ2 H2 fun b H3 =>
        if b = true then te σ2 H3 fun y H4 => ∃ acc, H4 D = some (.lst acc) ∧ acc.length < sizeLine ∧ Nx (upd H4 D (.lst (acc ++ [y]))) else Nx H3) := by
  refine lc_it wk (fun j H => Same H1 H ∧ H D = some (.lst ((xs.take j).map f))) ⟨same_upd hD (Same.refl _), upd_same⟩ (fun j H _ p => hG H p.1) (fun j x H H' hj p y => ?_) (fun H p => hd H p.1 (by rw [p.2, ← hn, List.take_length]))
  obtain ⟨rfl, hx⟩ := hY _ _ _ _ y
  refine ⟨?_, ?_⟩
  · show ((σ.set i none).set i (some x)).set i none = σ.set i none
    rw [List.set_set, List.set_set]
  · dsimp only [tYes]
    rw [if_pos rfl]
    refine he x (List.mem_of_getElem? hx) H' p.1 _ fun H'' s' => ⟨_, s' _ _ p.2, ?_, same_upd hD (p.1.trans s'), ?_⟩
    · rw [List.length_map, sizeLine_eq]
      have := List.length_take_le j xs
      omega
    · rw [upd_same]
      congr 2
      have lt : j < xs.length := (List.getElem?_eq_some_iff.mp hx).1
      have e : xs[j] = x := (List.getElem?_eq_some_iff.mp hx).2
      rw [List.take_succ_eq_append_getElem lt, List.map_append, e]
      rfl
theorem y_at {xs : List V} : ∀ i H x H', YAt xs i H x H' → H' = H ∧ xs[i]? = some x := fun _ _ _ _ y => y
def signs (z : PySem.Str) : List V := z.cps.toList.map fun c => .str ⟨#[c]⟩
theorem y_str {z : PySem.Str} : ∀ (i : Nat) (H : Hp) (v : V) (H' : Hp), (H' = H ∧ ∃ c : Nat, z.cps[i]? = some c ∧ v = .str ⟨#[c]⟩) → H' = H ∧ (signs z)[i]? = some v := fun i H v H' ⟨a, c, hc, e⟩ => ⟨a, by
  unfold signs
  rw [List.getElem?_map, Array.getElem?_toList, hc, e]
  rfl⟩
theorem signs_len {z : PySem.Str} : (signs z).length = z.cps.size := by simp [signs]
theorem same_tup {K : PySem.W.Frag} {H H' : Hp} {a : Addr} {xs : List V} (e : Same H H') (h : SqT K H a xs) : SqT K H' a xs := by
  rcases h with (h | ⟨o, h⟩) | h
  · exact .inl (.inl (e _ _ h))
  · exact .inl (.inr ⟨o, e _ _ h⟩)
  · exact .inr h
end
end FK
end
section
set_option Elab.async false
set_option linter.all false
set_option maxRecDepth 100000
set_option maxHeartbeats 4000000
namespace FA
open PySem PySem.Spec PyProof.Rows L2 FK
noncomputable abbrev TW := PySem.W.Fast.tw10313853756172224601
def Bt (mg : PySem.Str → Option Value) : Prop := ∀ x ∈ (["len", "isinstance", "all", "any", "str", "tuple", "list", "int", "bool", "sorted", "set", "zip", "range", "enumerate", "dict", "max", "min", "abs", "sum"] : List PySem.Str), mg x = none
def wordB (z : PySem.Str) : Bool := decide (1 ≤ z.length) && decide (z.length ≤ 12) && z.cps.toList.all fun c => decide (97 ≤ c) && decide (c ≤ 122)
def wordV : V → Bool
  | .str z => wordB z
  | _ => false
inductive Flat : V → Prop
  | str (z : PySem.Str) (h : z.length ≤ 100000) : Flat (.str z)
  | int (i : Int) : Flat (.int i)
  | non : Flat .non
theorem Flat.ty {K : PySem.W.Frag} {H : Hp} {v : V} (f : Flat v) : ∃ t, TyX K H v t ∧ PySem.W.kitOne K t (.type "str") = some (match v with | .str _ => true | _ => false) := by
  cases f with
  | str z h => exact ⟨_, .base (.str z), by rfl⟩
  | int i => exact ⟨_, .base (.int i), by rfl⟩
  | non => exact ⟨_, .base .non, by rfl⟩
theorem lt1 (a b : Nat) : (([a] : List Nat) < [b]) ↔ a < b := by
  simp [List.cons_lt_cons_iff]
def signB (c : Nat) : Bool := decide (97 ≤ c) && decide (c ≤ 122)
def signV : V → Bool
  | .str c => !decide (c.cps.toList < [97]) && !decide ([122] < c.cps.toList)
  | _ => false
theorem signV_one (c : Nat) : signV (.str ⟨#[c]⟩) = signB c := by
  show (!decide (([c] : List Nat) < [97]) && !decide (([122] : List Nat) < [c])) = _
  unfold signB
  have a1 : decide (([c] : List Nat) < [97]) = decide (c < 97) := decide_eq_decide.mpr (lt1 c 97)
  have a2 : decide (([122] : List Nat) < [c]) = decide (122 < c) := decide_eq_decide.mpr (lt1 122 c)
  rw [a1, a2]
  by_cases h1 : 97 ≤ c <;> by_cases h2 : c ≤ 122 <;> simp [h1, h2] <;> omega
theorem signV_map (z : PySem.Str) : (FK.signs z).map (fun v => V.bl (signV v)) = (z.cps.toList.map signB).map V.bl := by
  unfold FK.signs
  rw [List.map_map, List.map_map]
  exact List.map_congr_left fun c _ => congrArg V.bl (signV_one c)
noncomputable abbrev sWord : Stmt := HK.stA TW 50
theorem scWord : FnScope ["word", "sign"] ["word"] (defScope sWord) := ⟨rfl, rfl, rfl, by decide +kernel, rfl, by decide +kernel, by decide +kernel⟩
def spWord : Sp := fun vs H Q _ => ∃ v, vs = [v] ∧ Flat v ∧ ∀ H', Same H H' → Q (.bl (wordV v)) H'
section
variable {P : Program} {w : World} {K : PySem.W.Frag} {mg : PySem.Str → Option Value} {base : Heap}
theorem okWord {f : Addr} {fd : FuncData} (F : L2.Fun K "is_word" "is_word" sWord f fd) (B : Bt mg) : FnOk P w K mg base CX0 1 f fd ["word"] spWord := by
  refine F.ok scWord (fun vs H Q E h => by obtain ⟨v, rfl, _⟩ := h; rfl) (fun cdv A outer s H vs Q E hr h => ?_)
  refine ⟨_, pss_cons (ps_if (PW.pt (pw_or (pt_not (pt_val (pe_callB call_isi (by rfl) (B _ (by decide)) (by decide +kernel) (pa_cons (pv 0) (pa_cons (pe_bltn (v := .ty "str") (by rfl) (B _ (by decide)) (by decide +kernel) rfl) pa_nil)))))
      (pw_or1 (pt_not (pt_chain op_le op_le pe_int (pe_callB call_len_str (by rfl) (B _ (by decide)) (by decide +kernel) (pa_cons (pv 0) pa_nil)) pe_int))))) (pss_one (ps_ret pe_bl)) pss_nil)
    (pss_one (ps_ret (pe_callB (cr_all rfl) (by rfl) (B _ (by decide)) (by decide +kernel) (pa_cons
      (pe_lc (own := [("sign", 1)]) (g := gName 1) (tt := tYes) rfl scWord.nd (pi_str (pv 0)) (blkOk_by (own := [("sign", 1)]) (N := ["word", "sign"]) (sc := defScope sWord) (by decide +kernel)) (fun _ _ _ _ _ => pg_name (i := 1) scWord.nd rfl (Or.inl rfl)) (fun _ _ _ _ _ => pts_nil)
        (fun _ _ _ _ _ => pe_chain op_le_str op_le_str pe_str (pv 1) pe_str)) pa_nil)))), ?_⟩
  obtain ⟨v, rfl, fv, k⟩ := h
  cases fv with
  | int i =>
    refine ⟨_, rfl, _, _, _, _, _, rfl, .ty _, .base (.int i), rfl, _, rfl, ?_⟩
    exact k _ (Same.refl _)
  | non =>
    refine ⟨_, rfl, _, _, _, _, _, rfl, .ty _, .base .non, rfl, _, rfl, ?_⟩
    exact k _ (Same.refl _)
  | str z hz =>
    refine ⟨_, rfl, _, _, _, _, _, rfl, .ty _, .base (.str z), rfl, _, rfl, ?_⟩
    refine ⟨_, rfl, z, rfl, by rw [sizeLine_eq]; omega, _, _, rfl, rfl, _, rfl, ?_⟩
    by_cases c1 : (1 : Int) ≤ z.length
    · rw [decide_eq_true c1]
      refine iteT ⟨_, _, rfl, rfl, _, rfl, ?_⟩
      by_cases c2 : (z.length : Int) ≤ 12
      · rw [decide_eq_true c2]
        refine iteF ?_
        refine ⟨_, rfl, z, rfl, fun D hD => ?_⟩
        refine lc_pure walk_str (xs := FK.signs z) (fun v => .bl (signV v)) y_str signs_len (by have : z.cps.size = z.length := rfl; omega) hD (fun _ _ => True.intro) (fun x hx H' _ Q q => ?_) fun H' sm hl => ?_
        · obtain ⟨c, hc, rfl⟩ := List.mem_map.mp hx
          have q0 := q H' (Same.refl _)
          refine ⟨_, rfl, _, _, rfl, rfl, _, rfl, ?_⟩
          have e : signV (.str ⟨#[c]⟩) = (!decide (([c] : List Nat) < [97]) && !decide (([122] : List Nat) < [c])) := rfl
          rw [e] at q0
          cases h : !decide (([c] : List Nat) < [97]) with
          | true =>
            rw [h, Bool.true_and] at q0
            exact iteT ⟨_, _, rfl, rfl, q0⟩
          | false =>
            rw [h, Bool.false_and] at q0
            exact iteF q0
        · rw [signV_map] at hl
          refine ⟨D, _, rfl, SqL.of hl, ?_⟩
          have q0 := k _ sm
          have e : wordV (.str z) = (z.cps.toList.map signB).all id := by
            show wordB z = _
            unfold wordB
            rw [decide_eq_true (show 1 ≤ z.length by omega), decide_eq_true (show z.length ≤ 12 by omega), List.all_map]
            rfl
          rw [e] at q0
          exact q0
      · rw [decide_eq_false c2]
        refine iteT ?_
        have e : wordV (.str z) = false := by
          show wordB z = _
          unfold wordB
          rw [decide_eq_false (show ¬ z.length ≤ 12 by omega), Bool.and_false, Bool.false_and]
        have q0 := k _ (Same.refl _)
        rw [e] at q0
        exact q0
    · rw [decide_eq_false c1]
      refine iteF ⟨_, rfl, ?_⟩
      refine iteT ?_
      have e : wordV (.str z) = false := by
        show wordB z = _
        unfold wordB
        rw [decide_eq_false (show ¬ 1 ≤ z.length by omega), Bool.false_and, Bool.false_and]
      have q0 := k _ (Same.refl _)
      rw [e] at q0
      exact q0
end
end FA
end
section
set_option Elab.async false
set_option linter.all false
set_option maxRecDepth 100000
set_option maxHeartbeats 4000000
namespace SK
open PySem PySem.Spec PyProof.Rows
def step (σ : List Str) (v : Str) : List Str := if σ.any (· == v) then σ else σ ++ [v]
def fm (xs : List Str) : Nat → List Str
  | 0 => []
  | i + 1 => step (fm xs i) (xs.getD i Str.empty)
theorem fm_le (xs : List Str) : ∀ i, (fm xs i).length ≤ i
  | 0 => Nat.le_refl _
  | i + 1 => by
    have h := fm_le xs i
    show (step (fm xs i) _).length ≤ i + 1
    unfold step
    split
    · omega
    · rw [List.length_append, List.length_singleton]
      omega
theorem step_has (σ : List Str) (v k : Str) : (σ.any (· == k) || decide (k = v)) = (step σ v).any (· == k) := by
  unfold step
  split
  · rename_i h
    by_cases e : k = v
    · subst e
      rw [h]
      rfl
    · rw [decide_eq_false e, Bool.or_false]
  · rw [List.any_append]
    congr 1
    rw [List.any_cons, List.any_nil, Bool.or_false]
    by_cases e : k = v
    · subst e
      simp
    · rw [decide_eq_false e]
      symm
      rw [beq_eq_false_iff_ne]
      exact fun z => e z.symm
theorem step_len (σ : List Str) (v : Str) : (if σ.any (· == v) then σ.length else σ.length + 1) = (step σ v).length := by
  unfold step
  split <;> simp
section
variable {prog : Program} {w : World} {A : Around} {R : Result → Shared → Prop} {I : Addr} {fp wr : List Addr} {G : Array GenState → Array GenState → Prop} {n : Nat} {P : Nat → Value → Prop} {St : Nat → Shared → Prop}
theorem loopN (W : WalksS prog w A.in1 I fp wr G n P St) (S : Addr) (hSf : S ∉ fp) (xs : List Str) (hb : n + 1 < scanBound) (hval : ∀ i v, P i v → ∃ t, v = .str (xs.getD i Str.empty) t) :
    ∀ (k i : Nat) (s : Shared), n - i = k → i ≤ n → St i s → s.heap.SetOf (PySem.strKind prog w) S (fun k' => (fm xs i).any (· == k')) (fm xs i).length →
      (∀ s', Moved (S :: wr) G s s' → s'.heap.SetOf (PySem.strKind prog w) S (fun k' => (fm xs n).any (· == k')) (fm xs n).length → R (.ok (.ret .none)) s') →
      codeAny (model prog w) A (.builtin "set.update.loop" ⟨[.ref S, .ref I], []⟩) R s := by
  have hSw : S ∉ wr := fun h => hSf (W.sub _ h)
  have up : ∀ b ∈ wr, b ∈ S :: wr := fun b hb => List.mem_cons_of_mem _ hb
  intro k
  induction k with
  | zero =>
    intro i s hk hi hst hS hR
    obtain rfl : i = n := by omega
    refine codeAny_builtin PyProof.Rows.F.entry_set_update_loop ?_
    rw [Around.under_plainId PyProof.Rows.F.plain_set_update_loop _]
    show wpAny _ A.in1 (pyNext (.ref I) >>= _) _ _ s
    refine wpAny_bind (W.done s _ _ hst fun s' hm => ?_)
    obtain ⟨o, es, ep, t, ho, more⟩ := hS
    exact wpAny_pure (hR s' (hm.mono up) ⟨o, es, ep, t, hm.heap S _ hSw ho, more⟩)
  | succ k ih =>
    intro i s hk hi hst hS hR
    have hlt : i < n := by omega
    refine codeAny_builtin PyProof.Rows.F.entry_set_update_loop ?_
    rw [Around.under_plainId PyProof.Rows.F.plain_set_update_loop _]
    show wpAny _ A.in1 (pyNext (.ref I) >>= _) _ _ s
    refine wpAny_bind (W.item i s _ _ hlt hst fun v s' hP hst' hm => ?_)
    obtain ⟨t, rfl⟩ := hval i v hP
    have hS' : s'.heap.SetOf (PySem.strKind prog w) S (fun k' => (fm xs i).any (· == k')) (fm xs i).length := by
      obtain ⟨o, es, ep, tb, ho, more⟩ := hS
      exact ⟨o, es, ep, tb, hm.heap S _ hSw ho, more⟩
    show wpAny _ A.in1 (holding [Value.str (xs.getD i Str.empty) t] (setAdd S (.str (xs.getD i Str.empty) t)) >>= _) _ _ s'
    refine wpAny_bind (wpAny_holding ?_)
    unfold setAdd
    refine wpAny_holding (wpAny_bind ((PySem.strKind prog w).pyHash (k := xs.getD i Str.empty) (strKind_is _ _ _ _) ?_))
    have room : (fm xs i).length + 1 < scanBound := by have := fm_le xs i; omega
    refine wpAny_setAddHashed_of (knd := PySem.strKind prog w) (s := { s' with toks := s'.toks + 1 }) (strKind_is _ _ _ _) rfl hS' room fun h' sb hS2 => ?_
    have hSi : h'.SetOf (PySem.strKind prog w) S (fun k' => (fm xs (i + 1)).any (· == k')) (fm xs (i + 1)).length :=
      PyProof.Rows.SetOf_congr hS2 (fun k' => step_has _ _ _) (step_len _ _)
    refine wpAny_pure ⟨plainId_quiet PyProof.Rows.F.plain_set_update_loop _, ih (i + 1) _ (by omega) hlt (W.frame _ s' _ _ hst' (Nat.le_succ _) fun b hb o e => ?_) hSi fun s'' hm'' hS'' => ?_⟩
    · exact (sb.2 b (fun h : b = S => hSf (by rw [← h]; exact hb))).trans e
    · refine hR s'' (Moved.trans W.gtrans ((hm.mono up).then_heap (Nat.le_succ _) fun b o hb e => ?_) hm'') hS''
      exact (sb.2 b (fun h : b = S => hb (by rw [h]; exact List.mem_cons_self))).trans e
end
section
variable {prog : Program} {w : World} {A : Around} {E : Value → Shared → Prop} {s : Shared}
theorem call_set_tupN {l : Addr} {items : Array Value} {xs : List Str} {Q : Value → Shared → Prop}
    (hh : A.handled = none) (hl : s.heap.IsTuple l items) (hi : PyProof.Rows.StrsAre items.toList xs) (hb : items.size + 1 < scanBound)
    (h : ∀ (h' : Heap) (tk : Nat), h'.SetOf (PySem.strKind prog w) s.heap.objs.size (fun k' => (fm xs items.size).any (· == k')) (fm xs items.size).length →
      (∀ b o, b < s.heap.objs.size → s.heap.get? b = some o → h'.get? b = some o) → Q (.ref s.heap.objs.size) { s with heap := h', toks := tk }) :
    wpAny (model prog w) A (call (.type "set") [.ref l]) Q E s := by
  obtain ⟨c, tl, hmro⟩ := PySem.F.called_set.mro
  have hmade := PySem.F.called_set.made
  have hsub := PySem.F.called_set.sub
  refine wpAny_call (codeAny_of_tree ?_)
  show wpAny _ _ (callAny (.type "set") _) _ _ _
  refine wpAny_pure ⟨Code.quiet_builtin _ (by decide +kernel), codeAny_builtin PySem.F.entry_type_call ?_⟩
  rw [Around.under_plain (weight_type_call_type "set" [.ref l] []) rfl]
  have h1 := PySem.F.called_set.notType
  have h2 := PySem.F.called_set.canCreate
  have hct := PySem.F.typeCall_set_1 (.ref l)
  repeat (any_goals (first | assumption | wp_step))
  refine codeAny_mono (code_set_new_1 (.ref l) (E := E) (Q₁ := fun obj s₁ => ∃ led : Bool, obj = .ref s.heap.objs.size ∧ s₁ = { s with heap := s.heap.push { cls := .type "set", dict := none, data := .set #[] 0 (.fresh 0 0 led) } }) fun led => ⟨led, rfl, rfl⟩) fun r s₁ hr => ?_
  cases r with
  | error e => exact hr
  | ok fl =>
    cases fl with
    | ret obj =>
      obtain ⟨led, rfl, rfl⟩ := hr
      have hS : (s.heap.push { cls := .type "set", dict := none, data := .set #[] 0 (.fresh 0 0 led) }).get? s.heap.objs.size = some { cls := .type "set", dict := none, data := .set #[] 0 (.fresh 0 0 led) } := Heap.get?_push_size _ rfl
      have hT : Shared.TypeIs { s with heap := s.heap.push { cls := .type "set", dict := none, data := .set #[] 0 (.fresh 0 0 led) } } (.ref s.heap.objs.size) "set" := ⟨_, hS, rfl⟩
      have hli := PySem.F.called_set.init.lookup
      have hbi := PySem.F.called_set.init.bind (.ref s.heap.objs.size)
      repeat (any_goals (first | assumption | wp_step))
      refine codeAny_mono (codeAny_call_builtin (R := wants (fun r s₂ => r = .none ∧ ∃ h' tk, s₂ = { s with heap := h', toks := tk } ∧
          h'.SetOf (PySem.strKind prog w) s.heap.objs.size (fun k' => (fm xs items.size).any (· == k')) (fm xs items.size).length ∧
          (∀ b o, b < s.heap.objs.size → s.heap.get? b = some o → h'.get? b = some o)) E) PySem.F.called_set.init.plain PySem.F.entry_set_init (check_set_init_1 hT ?_)) fun r₂ s₂ hr₂ => ?_
      · obtain ⟨ol, hol, hcl, nl, hdl⟩ := hl
        obtain ⟨ocls, odict, odata, oslots⟩ := ol
        simp only at hcl hdl
        subst hcl; subst hdl
        have hol' : (s.heap.push { cls := .type "set", dict := none, data := .set #[] 0 (.fresh 0 0 led) }).get? l = some { cls := .type "tuple", dict := odict, data := .seq items nl, slots := oslots } := Heap.get?_push_of_some _ hol
        have hsls := PySem.F.sub_tuple_set
        have hslf := PySem.F.sub_tuple_frozenset
        have hne : (Value.type "tuple" == Value.type "dict") = false := by decide
        have hl1 : (s.heap.push { cls := .type "set", dict := none, data := .set #[] 0 (.fresh 0 0 led) }).IsTuple l items := ⟨_, hol', rfl, nl, rfl⟩
        unfold Builtin.«set.__init__» noKeywords Builtin.Frozenset.updateFrom
        generalize hPI : pyIter = PI
        wp_walk
        subst hPI
        refine wpAny_pyIter_tuple hl1 ?_
        refine wpAny_bind (wpAny_runValue ?_)
        have hlS : l < s.heap.objs.size := Heap.lt_size hol
        have hh3 : A.in1.in1.in1.handled = none := by simp [hh]
        have hneI : l ≠ (s.heap.push { cls := .type "set", dict := none, data := .set #[] 0 (.fresh 0 0 led) }).objs.size := by
          rw [Heap.size_push]; exact Nat.ne_of_lt (Nat.lt_succ_of_lt hlS)
        have hSf : s.heap.objs.size ∉ [(s.heap.push { cls := .type "set", dict := none, data := .set #[] 0 (.fresh 0 0 led) }).objs.size, l] := by
          rw [Heap.size_push]; simp only [List.mem_cons, List.mem_singleton, List.not_mem_nil, or_false, not_or]
          exact ⟨Nat.ne_of_lt (Nat.lt_succ_self _), Nat.ne_of_gt hlS⟩
        have hsz : xs.length = items.size := by rw [← StrsAre.len_eq hi, Array.length_toList]
        have hval : ∀ (i : Nat) (v : Value), items[i]? = some v → ∃ t, v = .str (xs.getD i Str.empty) t := fun i v hv => SS.strs_at hi i v (by rw [Array.getElem?_toList]; exact hv)
        refine loopN ((Walks.tuple hh3 _ l hneI items).toS) s.heap.objs.size
          hSf xs hb hval (items.size - 0) 0 _ (by omega) (Nat.zero_le _)
          ⟨⟨_, Heap.get?_push_size _ rfl, rfl, rfl⟩, (hl1.push _)⟩ ?hS0 ?hR
        case hS0 =>
          have hget : ((s.heap.push { cls := .type "set", dict := none, data := .set #[] 0 (.fresh 0 0 led) }).push { cls := .type "tuple_iterator", data := .fields #[.ref l, .int 0 0] }).get? s.heap.objs.size
              = some { cls := .type "set", dict := none, data := .set #[] 0 (.fresh 0 0 led) } := Heap.get?_push_of_some _ hS
          exact PyProof.Rows.SetOf_congr ((PyProof.Rows.setObjOf_fresh (knd := PySem.strKind prog w) led).setOf hget (by unfold scanBound; omega)) (fun _ => rfl) rfl
        case hR =>
          intro s' hm hS'
          obtain ⟨h', g', d', tk', os'⟩ := s'
          have eg : g' = s.gens := hm.gens
          have ed : d' = s.drawn := hm.drawn
          have eo : os' = s.os := hm.os
          subst eg; subst ed; subst eo
          show wpAny _ _ _ _ _ _
          refine wpAny_pure ?_
          show wpAny _ _ (ret Value.none) _ _ _
          refine wpAny_pure ⟨rfl, h', tk', rfl, hS', fun b o hb e => ?_⟩
          have hb1 : b ≠ s.heap.objs.size := Nat.ne_of_lt hb
          have hb2 : b ≠ (s.heap.push { cls := .type "set", dict := none, data := .set #[] 0 (.fresh 0 0 led) }).objs.size := by
            rw [Heap.size_push]; exact Nat.ne_of_lt (Nat.lt_succ_of_lt hb)
          exact hm.heap b o (by simp only [List.mem_cons, List.mem_singleton, List.not_mem_nil, or_false, not_or]; exact ⟨hb1, hb2⟩) (Heap.get?_push_of_some _ (Heap.get?_push_of_some _ e))
      · cases r₂ with
        | error e => exact hr₂
        | ok fl₂ =>
          cases fl₂ with
          | ret r =>
            obtain ⟨rfl, h', tk, rfl, hS', hk'⟩ := hr₂
            repeat (any_goals (first | assumption | wp_step))
            exact h _ _ hS' hk'
          | _ => exact hr₂.elim
    | _ => exact hr.elim
end
end SK
end
section
set_option Elab.async false
set_option linter.all false
set_option maxRecDepth 100000
set_option maxHeartbeats 4000000
namespace SK
open PySem PySem.Spec PyProof.Rows L2
def tLenSetN (K : PySem.W.Frag) (ta : TE) : TE := fun σ H Q => ta σ H fun x H1 => ∃ (l : Addr) (xs : List PySem.Str), x = .ref l ∧ SqT K H1 l (xs.map V.str) ∧ xs.length ≤ 1000 ∧ Q (.int ((fm xs xs.length).length : Nat)) H1
theorem pe_lenSetN {X : Cx} {a : Expr} {ta : TE} {p p2 q pos : Pos} (hc : X.calm = true) (hg : Gl X "len") (hm : X.mg "len" = none) (hg2 : Gl X "set") (hm2 : X.mg "set" = none) (ha : PE X a ta)
    (na : starEach [a] X.env = (false, eval a X.env) :: starEach [] X.env := by rfl) : PE X (.Call (.Name "len" p) [.Call (.Name "set" p2) [a] [] q] [] pos) (tLenSetN X.K ta) := by
  refine ⟨fun pins s σ H Q I h => ?_⟩
  refine Call_ (ld_blt I hg hm boot_len ?_)
  refine PyProof.Rows.callWith_builtin1 (PyProof.Rows.args_cons ?_ rfl) rfl rfl
  refine Call_ (ld_blt I hg2 hm2 boot_set ?_)
  refine PyProof.Rows.callWith_type1 (PyProof.Rows.args_cons (thn (ha.run pins s σ H _ I h) fun v s1 ⟨x, H1, I1, r1, l, xs, ex, hq, hz, q1⟩ => PyProof.Rows.args_nil ?_) na) na rfl
  subst ex
  obtain rfl : v = Value.ref l := r1
  obtain ⟨its, r, pl, _⟩ := I1.tuple hq
  have hl : its.toArray.size = xs.length := by rw [List.size_toArray, ← r.length, List.length_map]
  refine call_set_tupN (I1.ok.hd hc) pl (by simpa using strsAre_of r) (by rw [hl]; unfold scanBound; omega) fun h' tk hS hk => PyProof.Rows.args_nil ?_
  rw [hl] at hS
  obtain ⟨o, es, ep, t, ho, hex, hd, _, _, _, hf, hn⟩ := hS
  have I2 : Inv X pins σ H1 { s1 with heap := h', toks := tk } := I1.kept fun b o e => hk b o (Heap.lt_size e) e
  have le := fm_le xs xs.length
  exact call_len_set ho hex hd hf (by rw [hn]; omega) ⟨.int ((fm xs xs.length).length : Nat), H1, I2.tok _, ⟨_, by rw [hn]⟩, q1⟩
end SK
end
section
set_option Elab.async false
set_option linter.all false
set_option maxRecDepth 100000
set_option maxHeartbeats 4000000
namespace EN
open PySem
open Sem (wp)
open AutoSeq1 (wpAny_loadPart')
set_option maxHeartbeats 8000000 in
theorem meets_newT (l : Addr) (items : Array Value) (n : Nat) (dct : Option Addr) (sl : Array (Option Value)) :
    Meets (Builtin.«enumerate.__new__» ⟨[.type "enumerate", .ref l], []⟩) (fun _ R s => s.heap.get? l = some { cls := .type "tuple", dict := dct, data := .seq items n, slots := sl } ∧
      R (.ok (.ret (.ref (s.heap.push { cls := .type "tuple_iterator", data := .fields #[.ref l, .int 0 0] }).objs.size)))
        { s with heap := (s.heap.push { cls := .type "tuple_iterator", data := .fields #[.ref l, .int 0 0] }).push { cls := .type "enumerate", data := .fields #[.none, .bool false, .ref s.heap.objs.size, rawInt 0, .none, .none] } }) :=
  .of_wp fun prog w A R s h => by
    obtain ⟨hp, g, d, tk, os⟩ := s
    obtain ⟨hl, h⟩ := h
    have hsub := sub_enumerate
    have hL : Heap.IsTuple (Shared.heap ⟨hp, g, d, tk, os⟩) l items := ⟨_, hl, rfl, n, rfl⟩
    wp_walk using wpAny_loadPart' hl
    refine wpAny_stack_any fun st => wpAny_pure ?_
    split
    · rename_i c _ _ _ _ _
      cases (c == Value.type "enumerate") <;> (wp_walk using wpAny_loadPart' hl, wpAny_pyIter_tuple hL) <;> exact ⟨_, rfl, h⟩
    · wp_walk using wpAny_loadPart' hl, wpAny_pyIter_tuple hL
      exact ⟨_, rfl, h⟩
section
variable {prog : Program} {w : World} {A : Around} {E : Value → Shared → Prop} {s : Shared}
theorem call_enumT {l : Addr} {items : Array Value} {Q : Value → Shared → Prop} (hL : s.heap.IsTuple l items)
    (h : ∀ h', IsEnum h' (s.heap.objs.size + 1) s.heap.objs.size 0 .none → h'.IsTupleIter s.heap.objs.size l 0 → (∀ b o, s.heap.get? b = some o → h'.get? b = some o) → Q (.ref (s.heap.objs.size + 1)) { s with heap := h' }) :
    wpAny (model prog w) A (call (.type "enumerate") [.ref l]) Q E s := by
  obtain ⟨⟨c, dct, dt, sl⟩, hl, hc, n, hd⟩ := hL
  obtain rfl : c = .type "tuple" := hc
  obtain rfl : dt = .seq items n := hd
  have z : (s.heap.push { cls := .type "tuple_iterator", data := .fields #[.ref l, .int 0 0] }).objs.size = s.heap.objs.size + 1 := Heap.size_push ..
  have he : IsEnum ((s.heap.push { cls := .type "tuple_iterator", data := .fields #[.ref l, .int 0 0] }).push
      { cls := .type "enumerate", data := .fields #[.none, .bool false, .ref s.heap.objs.size, rawInt 0, .none, .none] }) (s.heap.objs.size + 1) s.heap.objs.size 0 .none := by
    have y := Heap.get?_push_size (s.heap.push { cls := .type "tuple_iterator", data := .fields #[.ref l, .int 0 0] })
      (o := { cls := .type "enumerate", data := .fields #[.none, .bool false, .ref s.heap.objs.size, rawInt 0, .none, .none] }) rfl
    rwa [z] at y
  refine callType_new F.called_enumerate (by decide) (F.typeCall_enumerate_1 _) (F.newCall_enumerate_1 _) (fun obj => F.args_object_init_2 obj _) F.entry_enumerate_new (meets_newT l items n dct sl) ⟨hl, ?_⟩
  show _ ∧ _
  rw [z]
  exact ⟨⟨_, he, rfl⟩, h _ he ⟨_, Heap.get?_push_of_some _ (Heap.get?_push_size _ rfl), rfl, rfl⟩ fun b o x => Heap.get?_push_of_some _ (Heap.get?_push_of_some _ x)⟩
theorem enum_end {e it l : Addr} {i : Nat} {items : Array Value} {old : Value} {Q : Option Value → Shared → Prop} (hh : A.handled = none) (he : IsEnum s.heap e it i old) (hit : s.heap.IsTupleIter it l i) (hl : s.heap.IsTuple l items) (hx : items[i]? = none)
    (hQ : ∀ h', Heap.ExtBut it s.heap h' → Q none { s with heap := h' }) : wpAny (model prog w) A (pyNext (.ref e)) Q E s := by
  have hT : s.TypeIs (.ref e) "enumerate" := ⟨_, he, rfl⟩
  unfold pyNext
  refine wpAny_bind (wpAny_attempt (wpAny_callSpecial?_slot (name := Str.ofString "__next__") hT F.slot_enumerate_next (wpAny_call_entry F.slot_enumerate_next hT F.entry_enumerate_next ?_ (F.args_enumerate_next_1 _))))
  show wpAny _ _ (field (.ref e) 2 >>= _) _ _ _
  refine wpAny_bind (wpAny_field he rfl (x := .ref it) rfl (wpAny_bind (wpAny_nextOf_tuple_end hh hit hl hx fun h' x he' hx' => ?_)))
  obtain ⟨o, ho, hc⟩ := hx'
  exact wpAny_bind (wpAny_isInstance (T := "StopIteration") (b := true) ⟨o, ho, hc⟩ isSubtype_stop (wpAny_pure (hQ _ he')))
end
end EN
namespace EN
open PySem PySem.Spec PyProof.Rows L2
def Jt (K : PySem.W.Frag) (a : Addr) : It :=
  ⟨fun i H => ∃ (xs : List V) (x : V), SqT K H a xs ∧ xs[i]? = some x, fun i H v H' => ∃ T x, v = .ref T ∧ H T = none ∧ H' = upd H T (.tup [.int (i : Nat), x]) ∧ ∀ xs, SqT K H a xs → xs[i]? = some x, fun i H => ∃ xs : List V, SqT K H a xs ∧ xs.length ≤ i⟩
theorem turnT {P : Program} {w : World} {K : PySem.W.Frag} {elts : List Expr} {kk : Nat} {tpos : Pos} (a e it : Addr) :
    Turn P w K (.Tuple elts kk tpos) (Jt K a) [e, it] e (fun i h => (∃ old, IsEnum h e it ((i : Nat) : Int) old) ∧ h.IsTupleIter it a i ∧ e ≠ it) where
  mem := by simp
  obj := fun i h st b hb => by
    obtain ⟨⟨old, he⟩, ⟨o, ho, hc, hd⟩, _⟩ := st
    have e' : b = e ∨ b = it := by simpa using hb
    rcases e' with rfl | rfl
    · exact ⟨_, he, fun v q => nomatch q⟩
    · exact ⟨o, ho, fun v q => by rw [hd] at q; cases q⟩
  keep := fun i h h' st k => let ⟨⟨old, he⟩, hi, hne⟩ := st; ⟨⟨old, k e (by simp) _ he⟩, hi.at fun o q => k it (by simp) o q, hne⟩
  item := by
    intro X hP hw hK hc i pins s σ H E I hf st hg
    subst hP hw hK
    obtain ⟨⟨old, he⟩, hit, hne⟩ := st
    obtain ⟨xs, x, hq, hx⟩ := hg
    obtain ⟨its, rv, p, hz⟩ := I.tuple hq
    obtain ⟨u, hu, ru⟩ := rv.get hx
    have hel : e < s.heap.objs.size := Heap.lt_size he
    have hil : it < s.heap.objs.size := by obtain ⟨_, q, _⟩ := hit; exact Heap.lt_size q
    have nea : a ≠ it := fun z => by
      obtain ⟨o1, q1, c1, _⟩ := hit
      obtain ⟨o2, q2, c2, _⟩ := p
      rw [z, q1] at q2
      cases q2
      rw [c1] at c2
      exact absurd c2 (by decide)
    have nee : e ≠ a := fun z => by
      obtain ⟨o2, q2, c2, _⟩ := p
      have q1 : s.heap.get? e = some _ := he
      rw [z, q2] at q1
      cases q1
      have c3 : Value.type "enumerate" = Value.type "tuple" := c2
      exact absurd c3 (by decide)
    have li : i < its.toArray.size := by
      have := (List.getElem?_eq_some_iff.mp hu).1
      simpa using this
    refine wpAny_pyNext_enum_itemD (Draws.tuple (by exact I.ok.hd hc) it a nea its.toArray) he ⟨hit, p⟩ li hne (by simp [hne, nee]) fun y h' tk hy ho hit' hT hsz hk => ?_
    obtain rfl : y = u := by
      have q : its[i]? = some y := by simpa using hy
      rw [hu] at q
      exact (Option.some.inj q).symm
    refine ⟨_, rfl, wpAny_letOwnedTupleGo_enum (s := { s with heap := h', toks := tk + 1 }) ho fun h'' he' sb => ?_⟩
    have hT2 : h''.get? s.heap.objs.size = some { cls := .type "tuple", data := .seq #[.int i tk, y] } := (sb.2 _ (Nat.ne_of_gt hel)).trans hT
    have new : ObjOk X.prog X.w (upd H s.heap.objs.size (.tup [.int (i : Nat), x])) h'' s.heap.objs.size (.tup [.int (i : Nat), x]) :=
      ⟨by show 2 ≤ sizeLine; decide, [.int i tk, y], .cons ⟨_, rfl⟩ (.cons ru .nil), ⟨_, hT2, rfl, _, rfl⟩⟩
    have I1 : Inv X pins σ (upd H s.heap.objs.size (.tup [.int (i : Nat), x])) { s with heap := h'', toks := tk + 1 } :=
      I.turnedNew (ch := [e, it]) (fun b ob hb q => (sb.2 b (fun z => hb (by simp [z]))).trans (hk b ob (fun z => hb (by simp [z])) (fun z => hb (by simp [z])) q)) hf (Nat.le_refl _) new
    refine ⟨.ref s.heap.objs.size, _, I1, rfl, ⟨_, x, rfl, I.hok.fresh (Nat.le_refl _), rfl, fun ys hy => by rw [I.tuple_inj hy hq]; exact hx⟩, ⟨⟨y, ?_⟩, hit'.1.at fun o q => (sb.2 it (Ne.symm hne)).trans q, hne⟩, fun b hb => ?_⟩
    · rw [show ((i + 1 : Nat) : Int) = (i : Int) + 1 by omega]
      exact he'
    · have hb' : b < s.heap.objs.size := by
        have e' : b = e ∨ b = it := by simpa using hb
        rcases e' with rfl | rfl
        · exact hel
        · exact hil
      rw [upd_ne (Nat.ne_of_lt hb')]
      exact (hf b hb).1
  done := by
    intro X hP hw hK hc i pins s σ H E I hf st hg
    subst hP hw hK
    obtain ⟨⟨old, he⟩, hit, hne⟩ := st
    obtain ⟨xs, hq, hx⟩ := hg
    obtain ⟨its, rv, p, hz⟩ := I.tuple hq
    obtain ⟨f0, f1, f2, f3, f4, f5⟩ := hf it (by simp)
    have hl := rv.length
    exact enum_end (I.ok.hd hc) he hit p (by simp; omega) fun h' eb => ⟨rfl, I.turned (t' := s.toks) (fun b o hb q => eb b o hb q) f0 f1 f3 f4 f5⟩
  self := fun A i s Q E st h => let ⟨⟨_, he⟩, _⟩ := st; wpAny_pyIter_enum he h
def iEnumT (K : PySem.W.Frag) (ta : TA) : TI := fun σ H R => ta σ H fun vs H1 => ∃ a xs, vs = [.ref a] ∧ SqT K H1 a xs ∧ R (Jt K a) H1
theorem pi_enumT {X : Cx} {e : Expr} {ta : TA} {p pos tpos : Pos} {elts : List Expr} {kk : Nat} (hg : Gl X "enumerate") (hm : X.mg "enumerate" = none) (ha : PA X [e] ta) (hs : starEach [e] X.env = [(false, eval e X.env)] := by rfl) :
    PI X (.Tuple elts kk tpos) (.Call (.Name "enumerate" p) [e] [] pos) (iEnumT X.K ta) := by
  refine ⟨fun pins s σ H R I h => ?_⟩
  refine Call_ (ld_blt I hg hm boot_enumerate (PyProof.Rows.callWith_type1 (thn (ha.run pos pins s σ H _ I h) fun us s1 ⟨vs, H1, I1, r1, a, xs, ex, hq, q⟩ => ?_) hs rfl))
  subst ex
  obtain ⟨u, rfl, rx⟩ := vals1 r1
  cases rx
  obtain ⟨its, rv, p', hz⟩ := I1.tuple hq
  refine call_enumT p' fun h' he hit hk => wpAny_pyIter_enum he ?_
  have I2 : Inv X pins σ H1 { s1 with heap := h' } := I1.kept (t' := s1.toks) hk
  refine ⟨s1.heap.objs.size + 1, [s1.heap.objs.size + 1, s1.heap.objs.size], _, _, H1, rfl, I2, turnT a (s1.heap.objs.size + 1) s1.heap.objs.size, ⟨⟨.none, he⟩, hit, Nat.succ_ne_self _⟩, fun b hb => ?_, q⟩
  have e' : b = s1.heap.objs.size + 1 ∨ b = s1.heap.objs.size := by simpa using hb
  have le : s1.heap.objs.size ≤ b := by rcases e' with rfl | rfl <;> omega
  exact I1.fpOk le (I1.hok.fresh le)
theorem walk_enumT {K : PySem.W.Frag} {a : Addr} {xs : List V} : L2.Walk (Jt K a) xs.length (fun H => SqT K H a xs) (YPair (fun i => some (.int (i : Nat))) (fun i => xs[i]?)) := by
  refine ⟨fun i _ hi q => ⟨xs, xs[i], q, by simp [hi]⟩, fun _ q => ⟨xs, q, Nat.le_refl _⟩, fun i H v H' _ q y => ?_⟩
  obtain ⟨T, x, h1, h2, h3, h4⟩ := y
  exact ⟨T, .int (i : Nat), x, h1, h2, h3, rfl, h4 xs q⟩
end EN
end
section
set_option Elab.async false
set_option linter.all false
set_option maxRecDepth 100000
set_option maxHeartbeats 4000000
namespace FB
open PySem PySem.Spec PyProof.Rows L2 FK FA
theorem for_none {J : It} {G : Hp → Prop} {Y : Nat → Hp → V → Hp → Prop} (wk : L2.Walk J 0 G Y) {g : TG} {tb : TS} {D : Ends} {σ : L2.St} {H : Hp} (hG : G H) (hd : D.nx σ H) :
    ∃ W : Nat → Nat → L2.St → Hp → Prop, (∃ m, W 0 m σ H) ∧ ∀ i m σ H, W i m σ H →
      (J.stop i H ∧ D.nx σ H) ∨ (J.go i H ∧ ∃ N : L2.St → Hp → Prop, (∀ σ' H', N σ' H' → ∃ m', m' < m ∧ W (i + 1) m' σ' H') ∧ ∀ x H', J.yld i H x H' → g x σ H' fun σ2 H2 => tb { D with nx := N, ct := N, bk := D.nx } σ2 H2) :=
  for_it wk (fun _ σ' H' => σ' = σ ∧ H' = H) ⟨rfl, rfl⟩ (fun _ _ _ _ e => by rw [e.2]; exact hG) (fun i x σ' H' H'' hi => absurd hi (Nat.not_lt_zero _)) (fun σ' H' e => by rw [e.1, e.2]; exact hd)
theorem lc_none {J : It} {G : Hp → Prop} {Y : Nat → Hp → V → Hp → Prop} (wk : L2.Walk J 0 G Y) {g : TG} {tt : TT} {te : TE} {vs : List Nat} {σ : L2.St} {H1 : Hp} {D : Addr} {Qd : Hp → Prop} (hG : G (upd H1 D (.lst []))) (hd : Qd (upd H1 D (.lst []))) :
    ∃ W : Nat → Nat → Hp → Prop, (∃ m, W 0 m (upd H1 D (.lst []))) ∧ ∀ i m H, W i m H →
      (J.stop i H ∧ Qd H) ∨ (J.go i H ∧ ∃ Nx : Hp → Prop, (∀ H', Nx H' → ∃ m', m' < m ∧ W (i + 1) m' H') ∧ ∀ x H', J.yld i H x H' → g x (wipe σ vs) H' fun σ2 H2 => wipe σ2 vs = wipe σ vs ∧ tt σ2 H2 fun b H3 =>
        if b = true then te σ2 H3 fun y H4 => ∃ acc, H4 D = some (.lst acc) ∧ acc.length < sizeLine ∧ Nx (upd H4 D (.lst (acc ++ [y]))) else Nx H3) :=
  lc_it wk (fun _ H' => H' = upd H1 D (.lst [])) rfl (fun _ _ _ e => by rw [e]; exact hG) (fun i x H' H'' hi => absurd hi (Nat.not_lt_zero _)) (fun H' e => by rw [e]; exact hd)
theorem for_noneC {J : It} {G : Hp → Prop} {Y : Nat → Hp → V → Hp → Prop} (wk : L2.Walk J 0 G Y) {H0 : Hp} {Qd : Hp → Prop} {T : Nat → Nat → (Hp → Prop) → V → Hp → Prop} (hG : G H0) (hd : Qd H0) :
    ∃ W : Nat → Nat → Hp → Prop, (∃ m, W 0 m H0) ∧ ∀ i m H, W i m H → (J.stop i H ∧ Qd H) ∨ (J.go i H ∧ ∃ Nx : Hp → Prop, (∀ H', Nx H' → ∃ m', m' < m ∧ W (i + 1) m' H') ∧ ∀ x H', J.yld i H x H' → T i m Nx x H') :=
  ⟨fun i _ H => i = 0 ∧ H = H0, ⟨0, rfl, rfl⟩, fun i m H e => .inl (by rw [e.1, e.2]; exact ⟨wk.stops _ hG, hd⟩)⟩
theorem walkT0 {K : PySem.W.Frag} {a : Addr} : L2.Walk (Itt K a) 0 (fun H => SqT K H a []) (YAt []) := walk_tup (xs := [])
theorem walkL0 {K : PySem.W.Frag} {a : Addr} : L2.Walk (Itl K a) 0 (fun H => SqL K H a []) (YAt []) := walk_list (xs := [])
theorem walkE0 {K : PySem.W.Frag} {a : Addr} : L2.Walk (EN.Jt K a) 0 (fun H => SqT K H a []) (YPair (fun i => some (.int (i : Nat))) (fun i => ([] : List V)[i]?)) := EN.walk_enumT (xs := [])
theorem sz2 {n : Nat} (h : n ≤ 100000) : n ≤ sizeLine := Nat.le_trans h (by decide)
theorem same_new {H : Hp} {p : Addr} {o : HO} (h : H p = none) : Same H (upd H p o) := same_upd h (Same.refl _)
section
variable {X : Cx}
theorem pe_no {e : Expr} : PE X e (fun _ _ _ => False) := ⟨fun _ _ _ _ _ _ h => h.elim⟩
theorem pg_no {e : Expr} : PG X e (fun _ _ _ _ => False) := ⟨fun _ _ _ _ _ _ _ _ _ h => h.elim⟩
theorem pi_no {tg e : Expr} : PI X tg e (fun _ _ _ => False) := ⟨fun _ _ _ _ _ _ h => h.elim⟩
end
def resV : List V := [.str "all", .str "and", .str "count", .str "else", .str "every", .str "for", .str "if", .str "in", .str "join", .str "known", .str "not", .str "or", .str "pass", .str "some", .str "true", .str "while"]
def nameV (v : V) : Bool := wordV v && !inV v resV
def spName : Sp := fun vs H Q _ => ∃ v, vs = [v] ∧ Flat v ∧ ∀ H', Same H H' → Q (.bl (nameV v)) H'
noncomputable abbrev sName : Stmt := HK.stA TW 51
theorem scName : FnScope ["word"] ["word"] (defScope sName) := ⟨rfl, rfl, rfl, by decide +kernel, rfl, by decide +kernel, by decide +kernel⟩
section
variable {P : Program} {w : World} {K : PySem.W.Frag} {mg : PySem.Str → Option Value} {base : Heap} {f : Addr} {fd : FuncData}
theorem okName {r : Addr} (F : L2.Fun K "is_name" "is_name" sName f fd) (c : Cal P w K mg base CX0 1 "is_word" spWord) (gR : mg "RESERVED" = some (.ref r)) (sR : ∀ H, SqT K H r resV) : FnOk P w K mg base CX0 2 f fd ["word"] spName := by
  refine F.ok scName (fun vs H Q E h => by obtain ⟨v, rfl, _⟩ := h; rfl) (fun cdv A outer s H vs Q E hr h => ?_)
  refine ⟨_, pss_one (ps_ret (pe_and (pe_c c hr (by rfl) pass0 (pa_cons (pv 0) pa_nil)) (pe_one (pe_cmpR op_notIn_seq (pv 0) (pe_glob (v := .ref r) (by rfl) gR rfl) (by rfl))))), ?_⟩
  obtain ⟨v, rfl, fv, k⟩ := h
  refine ⟨_, rfl, v, rfl, fv, fun H' sm => ?_⟩
  refine ⟨_, rfl, ?_⟩
  have k1 := k _ sm
  unfold nameV at k1
  cases hw : wordV v with
  | true =>
    rw [hw, Bool.true_and] at k1
    have fl : flatV v = true := by
      cases fv <;> rfl
    refine iteT ⟨_, rfl, r, _, rfl, .inr (sR _), fl, rfl, k1⟩
  | false =>
    rw [hw, Bool.false_and] at k1
    exact iteF k1
end
def spWrong (K : PySem.W.Frag) : Sp := fun vs H Q _ => ∃ a x y z, vs = [.ref a, x, y, z] ∧ SqT K H a [] ∧ ∀ H', Same H H' → Q .non H'
noncomputable abbrev sWrong : Stmt := HK.stA TW 59
theorem scWrong : FnScope ["statements", "known", "path", "level", "at", "statement", "here", "side", "rows", "found"] ["statements", "known", "path", "level"] (defScope sWrong) := ⟨rfl, rfl, rfl, by decide +kernel, rfl, by decide +kernel, by decide +kernel⟩
section
variable {P : Program} {w : World} {K : PySem.W.Frag} {mg : PySem.Str → Option Value} {base : Heap} {f : Addr} {fd : FuncData} {dvs : List V}
theorem okWrong (F : L2.FunD K "wrong_place" "wrong_place" (defArgs sWrong) (defBody sWrong) (defScope sWrong) dvs [] f fd) (B : Bt mg) : FnOk P w K mg base CX0 1 f fd ["statements", "known", "path", "level"] (spWrong K) := by
  refine F.ok scWrong (fun vs H Q E h => by obtain ⟨a, x, y, z, rfl, _⟩ := h; rfl) (fun cdv A outer s H vs Q E hr h => ?_)
  refine ⟨_, (pss_cons (ps_for PassesOwn.never rfl (EN.pi_enumT (by rfl) (B _ (by decide)) (pa_cons (pv 0) pa_nil)) (pg_tup (by rfl) (pgs_cons (pg_name (i := 4) scWrong.nd rfl (.inl rfl)) (pgs_cons (pg_name (i := 5) scWrong.nd rfl (.inl rfl)) pgs_nil))) pss_never)
    (pss_one (ps_ret pe_non))).nox, ?_⟩
  obtain ⟨a, x, y, z, rfl, hs, k⟩ := h
  exact ⟨_, rfl, a, [], rfl, hs, for_none walkE0 hs (k _ (Same.refl _))⟩
end
def spStv (K : PySem.W.Frag) : Sp := fun vs H Q _ => ∃ a, vs = [.ref a] ∧ SqT K H a [] ∧ ∀ H' p, Same H H' → H' p = some (.lst []) → Q (.ref p) H'
noncomputable abbrev sStv : Stmt := HK.stA TW 62
theorem scStv : FnScope ["statements", "found", "statement", "rows"] ["statements"] (defScope sStv) := ⟨rfl, rfl, rfl, by decide +kernel, rfl, by decide +kernel, by decide +kernel⟩
def spSln (K : PySem.W.Frag) : Sp := fun vs H Q _ => ∃ a x, vs = [.ref a, x] ∧ SqT K H a [] ∧ ∀ H' p, Same H H' → H p = none → H' p = some (.lst []) → Q (.ref p) H'
noncomputable abbrev sSln : Stmt := HK.stA TW 89
theorem scSln : FnScope ["statements", "indent", "statement", "line"] ["statements", "indent"] (defScope sSln) := ⟨rfl, rfl, rfl, by decide +kernel, rfl, by decide +kernel, by decide +kernel⟩
section
variable {P : Program} {w : World} {K : PySem.W.Frag} {mg : PySem.Str → Option Value} {base : Heap} {f : Addr} {fd : FuncData}
theorem okStv (F : L2.Fun K "state_variables" "state_variables" sStv f fd) : FnOk P w K mg base CX0 1 f fd ["statements"] (spStv K) := by
  refine F.ok scStv (fun vs H Q E h => by obtain ⟨a, rfl, _⟩ := h; rfl) (fun cdv A outer s H vs Q E hr h => ?_)
  refine ⟨_, pss_cons (ps_set (i := 1) scStv.nd rfl (.inl rfl) (pe_lst pa_nil)) (pss_cons (ps_for PassesOwn.never rfl (pi_tup (pv 0)) (pg_name (i := 2) scStv.nd rfl (.inl rfl)) pss_never) (pss_one (ps_ret (pv 1)))), ?_⟩
  obtain ⟨a, rfl, hs, k⟩ := h
  refine ⟨by show 0 ≤ sizeLine; decide, fun p hp => ?_⟩
  exact ⟨_, rfl, a, rfl, ⟨_, same_tup (same_new hp) hs⟩, for_none walkT0 (same_tup (same_new hp) hs) ⟨_, rfl, k _ p (same_new hp) upd_same⟩⟩
theorem okSln (F : L2.Fun K "statement_lines" "statement_lines" sSln f fd) : FnOk P w K mg base CX0 1 f fd ["statements", "indent"] (spSln K) := by
  refine F.ok scSln (fun vs H Q E h => by obtain ⟨a, x, rfl, _⟩ := h; rfl) (fun cdv A outer s H vs Q E hr h => ?_)
  refine ⟨_, pss_one (ps_ret (pe_lc2 (own := [("statement", 2), ("line", 3)]) (vs1 := [3]) (g := gName 2) (tt := tYes) (g1 := fun _ _ _ _ => False) (tt1 := tYes) rfl scSln.nd (pi_tup (pv 0)) (blkOk_by (own := [("statement", 2), ("line", 3)]) (N := ["statements", "indent", "statement", "line"]) (sc := defScope sSln) (by decide +kernel)) (by decide) (fun _ _ _ _ _ => pg_name (i := 2) scSln.nd rfl (Or.inl rfl)) (fun _ _ _ _ _ => pts_nil)
    (fun _ _ _ _ _ => pi_no) (fun _ _ _ _ _ => pg_no) (fun _ _ _ _ _ => pts_nil) (fun _ _ _ _ _ => pe_no))), ?_⟩
  obtain ⟨a, x, rfl, hs, k⟩ := h
  refine ⟨_, rfl, a, rfl, ⟨_, hs⟩, fun D hD => ?_⟩
  exact for_noneC walkT0 (same_tup (same_new hD) hs) (k _ D (same_new hD) hD upd_same)
end
end FB
end
section
set_option Elab.async false
set_option linter.all false
set_option maxRecDepth 100000
set_option maxHeartbeats 4000000
namespace FC
open PySem PySem.Spec PyProof.Rows L2 FK FA FB
theorem lc_len {J : It} {n : Nat} {G : Hp → Prop} {Y : Nat → Hp → V → Hp → Prop} (wk : L2.Walk J n G Y) {xs : List V} {i : Nat} {te : TE} {σ : L2.St} {H1 : Hp} {D : Addr} {Qd : Hp → Prop} (hY : ∀ i H x H', Y i H x H' → H' = H ∧ xs[i]? = some x) (hz : n ≤ 100000) (hD : H1 D = none)
    (hG : ∀ H', Same H1 H' → G H')
    (he : ∀ x ∈ xs, ∀ H', Same H1 H' → ∀ Q : VK, (∀ y H'', Same H' H'' → Q y H'') → te ((wipe σ [i]).set i (some x)) H' Q)
    (hd : ∀ H' acc, Same H1 H' → H' D = some (.lst acc) → acc.length = n → Qd H') :
    ∃ W : Nat → Nat → Hp → Prop, (∃ m, W 0 m (upd H1 D (.lst []))) ∧ ∀ j m H, W j m H →
      (J.stop j H ∧ Qd H) ∨ (J.go j H ∧ ∃ Nx : Hp → Prop, (∀ H', Nx H' → ∃ m', m' < m ∧ W (j + 1) m' H') ∧ ∀ x H', J.yld j H x H' → gName i x (wipe σ [i]) H' fun σ2 H2 => wipe σ2 [i] = wipe σ [i] ∧ tYes σ2 H2 fun b H3 =>
        if b = true then te σ2 H3 fun y H4 => ∃ acc, H4 D = some (.lst acc) ∧ acc.length < sizeLine ∧ Nx (upd H4 D (.lst (acc ++ [y]))) else Nx H3) := by
  refine lc_it wk (fun j H => Same H1 H ∧ ∃ acc, H D = some (.lst acc) ∧ acc.length = j) ⟨same_upd hD (Same.refl _), [], upd_same, rfl⟩ (fun j H _ p => hG H p.1) (fun j x H H' hj p y => ?_) (fun H p => by obtain ⟨s, acc, e, l⟩ := p; exact hd H acc s e l)
  obtain ⟨rfl, hx⟩ := hY _ _ _ _ y
  obtain ⟨s, acc, e, l⟩ := p
  refine ⟨?_, ?_⟩
  · show ((σ.set i none).set i (some x)).set i none = σ.set i none
    rw [List.set_set, List.set_set]
  · dsimp only [tYes]
    rw [if_pos rfl]
    refine he x (List.mem_of_getElem? hx) H' s _ fun y H'' s' => ⟨acc, s' _ _ e, ?_, same_upd hD (s.trans s'), _, upd_same, ?_⟩
    · rw [l, sizeLine_eq]
      omega
    · rw [List.length_append, l]
      rfl
theorem same_push {H H' : Hp} {p : Addr} {o : HO} (s : Same H H') (h : H' p = none) : Same H (upd H' p o) := s.trans (same_new h)
theorem look_push {H' : Hp} {p a : Addr} {o u : HO} (s : H' a = some u) (h : H' p = none) : upd H' p o a = some u := same_new h _ _ s
theorem look_ne {H' : Hp} {p a : Addr} {o : HO} {r : Option HO} (s : H' a = r) (h : a ≠ p) : upd H' p o a = r := by rw [upd_ne h]; exact s
theorem free_up {H H' : Hp} {p : Addr} (s : Same H H') (h : H' p = none) : H p = none := s.free h
def spStart : Sp := fun vs H Q _ => ∃ x, vs = [x] ∧ ∀ H' l t d, Same H H' → H l = none → H t = none → H d = none → H' l = some (.lst [.ref t]) → H' t = some (.tup [.int 0, .non, .ref d]) → H' d = some (.dK []) → Q (.ref l) H'
noncomputable abbrev sStart : Stmt := HK.stA TW 177
theorem scStart : FnScope ["known"] ["known"] (defScope sStart) := ⟨rfl, rfl, rfl, by decide +kernel, rfl, by decide +kernel, by decide +kernel⟩
def spStock (K : PySem.W.Frag) : Sp := fun vs H Q _ => ∃ a ks, vs = [.ref a] ∧ SqT K H a ks ∧ ks.length ≤ 1000 ∧ ∀ H' p, Same H H' → Q (.ref p) H'
noncomputable abbrev sStock : Stmt := HK.stA TW 42
theorem scStock : FnScope ["known", "word"] ["known"] (defScope sStock) := ⟨rfl, rfl, rfl, by decide +kernel, rfl, by decide +kernel, by decide +kernel⟩
section
variable {P : Program} {w : World} {K : PySem.W.Frag} {mg : PySem.Str → Option Value} {base : Heap} {f : Addr} {fd : FuncData}
theorem okStart (F : L2.Fun K "start" "start" sStart f fd) : FnOk P w K mg base CX0 1 f fd ["known"] spStart := by
  refine F.ok scStart (fun vs H Q E h => by obtain ⟨a, rfl, _⟩ := h; rfl) (fun cdv A outer s H vs Q E hr h => ?_)
  refine ⟨_, pss_one (ps_ret (pe_lst (pa_cons (pe_tup (pa_cons pe_int (pa_cons pe_non (pa_cons pe_dnewK pa_nil)))) pa_nil))), ?_⟩
  obtain ⟨x, rfl, k⟩ := h
  intro d hd
  refine ⟨by show 3 ≤ sizeLine; decide, fun t ht => ?_⟩
  refine ⟨by show 1 ≤ sizeLine; decide, fun l hl => ?_⟩
  have s1 := same_new (o := .dK []) hd
  have s2 := same_new (o := .tup [.int 0, .non, .ref d]) ht
  have s3 := same_new (o := .lst [.ref t]) hl
  refine k _ l t d ((s1.trans s2).trans s3) ((s1.trans s2).free hl) (s1.free ht) hd upd_same (s3 _ _ upd_same) (s3 _ _ (s2 _ _ upd_same))
theorem okStock (F : L2.Fun K "stock" "stock" sStock f fd) (B : Bt mg) : FnOk P w K mg base CX0 1 f fd ["known"] (spStock K) := by
  refine F.ok scStock (fun vs H Q E h => by obtain ⟨a, x, rfl, _⟩ := h; rfl) (fun cdv A outer s H vs Q E hr h => ?_)
  refine ⟨_, pss_one (ps_ret (pe_tup (pa_cons pe_str (pa_cons (pe_tup pa_nil) (pa_cons (pe_op op_catA
    (pe_callTy call_tuple_of (by rfl) (B _ (by decide)) (by decide +kernel) (pa_cons
      (pe_lc (own := [("word", 1)]) (g := gName 1) (tt := tYes) rfl scStock.nd (pi_tup (pv 0)) (blkOk_by (own := [("word", 1)]) (N := ["known", "word"]) (sc := defScope sStock) (by decide +kernel)) (fun _ _ _ _ _ => pg_name (i := 1) scStock.nd rfl (Or.inl rfl)) (fun _ _ _ _ _ => pts_nil)
        (fun _ _ _ _ _ => pe_tup (pa_cons (pe_tup pa_nil) (pa_cons (pe_tup (pa_cons pe_str (pa_cons (pv 1) pa_nil))) pa_nil)))) pa_nil))
    (pe_tup (pa_cons (pe_tup (pa_cons (pe_tup (pa_cons pe_int pa_nil)) (pa_cons (pe_tup (pa_cons pe_str (pa_cons pe_int pa_nil))) pa_nil))) pa_nil))) pa_nil))))), ?_⟩
  obtain ⟨a, ks, rfl, hs, hz, k⟩ := h
  refine ⟨by show 0 ≤ sizeLine; decide, fun p1 h1 => ?_⟩
  have s1 := same_new (o := .tup []) h1
  refine ⟨_, rfl, a, rfl, ⟨_, same_tup s1 hs⟩, fun D hD => ?_⟩
  refine lc_len walk_tup (xs := ks) y_at (by omega) hD (fun H' s => same_tup (s1.trans s) hs) (fun x _ H' s Q q => ?_) fun H' acc s e l => ?_
  · refine ⟨by show 0 ≤ sizeLine; decide, fun p2 h2 => ?_⟩
    refine ⟨_, rfl, by show 2 ≤ sizeLine; decide, fun p3 h3 => ?_⟩
    refine ⟨by show 2 ≤ sizeLine; decide, fun p4 h4 => ?_⟩
    exact q _ _ (((same_new h2).trans (same_new h3)).trans (same_new h4))
  · refine ⟨D, acc, rfl, .inl ⟨SqL.of e, fun p2 h2 => ?_⟩⟩
    refine ⟨by show 1 ≤ sizeLine; decide, fun p3 h3 => ?_⟩
    refine ⟨by show 2 ≤ sizeLine; decide, fun p4 h4 => ?_⟩
    refine ⟨by show 2 ≤ sizeLine; decide, fun p5 h5 => ?_⟩
    refine ⟨by show 1 ≤ sizeLine; decide, fun p6 h6 => ?_⟩
    have s0 : Same H H' := s1.trans s
    have cat : ∀ (q : Addr), H' q = none → True := fun _ _ => True.intro
    refine ⟨p2, p6, acc, [.ref p5], rfl, rfl, .inl (.inl (by (repeat (first | assumption | exact upd_same | refine look_push ?_ (by assumption))))), .inl (.inl (by (repeat (first | assumption | exact upd_same | refine look_push ?_ (by assumption))))), by rw [l, sizeLine_eq]; show ks.length + 1 ≤ _; omega, fun _ => ?_, fun _ z => absurd z (by simp), fun _ _ p7 h7 => ?_⟩
    · refine ⟨by show 3 ≤ sizeLine; decide, fun p8 h8 => k _ _ ?_⟩
      (repeat (first | assumption | exact Same.refl _ | refine same_push ?_ (by assumption)))
    · refine ⟨by show 3 ≤ sizeLine; decide, fun p8 h8 => k _ _ ?_⟩
      (repeat (first | assumption | exact Same.refl _ | refine same_push ?_ (by assumption)))
end
structure Emp (K : PySem.W.Frag) (mg : PySem.Str → Option Value) (eE e1 e2 : Addr) : Prop where
  g : mg "EMPTY" = some (.ref eE)
  s : ∀ H, SqT K H eE [.str "set", .ref e1, .ref e2]
  s1 : ∀ H, SqT K H e1 []
  s2 : ∀ H, SqT K H e2 []
def spVal (K : PySem.W.Frag) (eE : Addr) : Sp := fun vs H Q _ => ∃ t d x y z kvs, vs = [.ref t, .ref d, x, y] ∧ SqT K H t [.str "var", .str z] ∧ H d = some (.dK kvs) ∧ valV kvs (Sum.inr z) = none ∧ ∀ H', Same H H' → Q (.ref eE) H'
noncomputable abbrev sVal : Stmt := HK.stA TW 160
theorem scVal : FnScope ["tree", "env", "low", "high", "tag"] ["tree", "env", "low", "high"] (defScope sVal) := ⟨rfl, rfl, rfl, by decide +kernel, rfl, by decide +kernel, by decide +kernel⟩
section
variable {P : Program} {w : World} {K : PySem.W.Frag} {mg : PySem.Str → Option Value} {base : Heap} {f eE e1 e2 : Addr} {fd : FuncData}
theorem okVal (F : L2.Fun K "value_of" "value_of" sVal f fd) (Em : Emp K mg eE e1 e2) : FnOk P w K mg base CX0 1 f fd ["tree", "env", "low", "high"] (spVal K eE) := by
  refine F.ok scVal (fun vs H Q E h => by obtain ⟨t, d, x, y, z, kvs, rfl, _⟩ := h; rfl) (fun cdv A outer s H vs Q E hr h => ?_)
  refine ⟨_, pss_cons (ps_set (i := 4) scVal.nd rfl (.inl rfl) (pe_ix ix_tup (pv 0) pe_int (fun _ _ => rfl)))
    (pss_cons (ps_if (pt_cmpR op_in_seq (pv 4) (pe_tup (pa_cons pe_str (pa_cons pe_str pa_nil))) (by rfl)) pss_never pss_nil)
    (pss_cons (ps_if (pt_cmpR op_eq (pv 4) pe_str (nomark _)) (pss_one (ps_ret (pe_dget2 (hu_of hr) (pv 1) (pe_ix ix_tup (pv 0) pe_int (fun _ _ => rfl)) (pe_glob (v := .ref eE) (by rfl) Em.g rfl) ⟨rfl, rfl, rfl, rfl⟩))) pss_nil) pss_never)), ?_⟩
  obtain ⟨t, d, x, y, z, kvs, rfl, ht, hd, hv, k⟩ := h
  refine ⟨_, rfl, t, _, _, _, rfl, rfl, ht, rfl, ?_⟩
  refine ⟨_, rfl, by show 2 ≤ sizeLine; decide, fun p hp => ?_⟩
  refine ⟨p, _, rfl, .inr (.inl (.inl upd_same)), rfl, rfl, _, rfl, ?_⟩
  refine iteF ?_
  refine ⟨_, rfl, rfl, _, rfl, ?_⟩
  refine iteT ?_
  have hd' := same_new (o := .tup [.str "known", .str "mark"]) hp _ _ hd
  refine ⟨_, rfl, d, rfl, .inl ⟨_, .inl hd'⟩, ?_⟩
  refine ⟨_, rfl, t, _, _, _, rfl, rfl, same_tup (same_new hp) ht, rfl, ?_⟩
  refine ⟨none, ?_, k _ (same_new hp)⟩
  rw [← hv]
  exact DGet.k (k := Sum.inr z) hd'
end
end FC
end
section
set_option Elab.async false
set_option linter.all false
set_option maxRecDepth 100000
set_option maxHeartbeats 4000000
namespace FD
open PySem PySem.Spec PyProof.Rows L2 FK FA FB FC
def spRows (K : PySem.W.Frag) (eE : Addr) : Sp := fun vs H Q _ => ∃ t kn pc d z ks, vs = [.ref t, .ref kn, .ref pc] ∧ SqT K H t [.str "var", .str z] ∧ SqT K H kn ks ∧ ks.length ≤ 1000 ∧ SqT K H pc [.int 0, .non, .ref d] ∧ H d = some (.dK []) ∧ z ≠ "all" ∧
  ∀ H' l r, Same H H' → H l = none → H r = none → H' l = some (.lst [.ref r]) → H' r = some (.tup [.int 0, .non, .ref eE]) → Q (.ref l) H'
noncomputable abbrev sRows : Stmt := HK.stA TW 183
theorem scRows : FnScope ["tree", "known", "piece", "waiting", "found", "env", "low", "high", "e"] ["tree", "known", "piece"] (defScope sRows) := ⟨rfl, rfl, rfl, by decide +kernel, rfl, by decide +kernel, by decide +kernel⟩
section
variable {P : Program} {w : World} {K : PySem.W.Frag} {mg : PySem.Str → Option Value} {base : Heap} {f eE : Addr} {fd : FuncData}
theorem okRows (F : L2.Fun K "value_rows" "value_rows" sRows f fd) (cS : Cal P w K mg base CX0 1 "stock" (spStock K)) (cV : Cal P w K mg base CX0 1 "value_of" (spVal K eE)) : FnOk P w K mg base CX0 2 f fd ["tree", "known", "piece"] (spRows K eE) := by
  refine F.ok scRows (fun vs H Q E h => by obtain ⟨t, kn, pc, d, z, ks, rfl, _⟩ := h; rfl) (fun cdv A outer s H vs Q E hr h => ?_)
  refine ⟨_, pss_cons (ps_par (i := 3) (j := 4) rfl scRows.nd rfl rfl (by decide) rfl rfl (pa_cons (pe_lst (pa_cons (pe_tup (pa_cons (pe_ix ix_tup (pv 2) pe_int (fun _ _ => rfl)) (pa_cons (pe_ix ix_tup (pv 2) pe_int (fun _ _ => rfl)) pa_nil))) pa_nil)) (pa_cons (pe_lst pa_nil) pa_nil)) rfl)
    (pss_cons (ps_set (i := 5) scRows.nd rfl (.inl rfl) (DS.pe_dstar (hu_of hr) (pe_ix ix_tup (pv 2) pe_int (fun _ _ => rfl)) pe_str (pe_c cS hr (by rfl) pass0 (pa_cons (pv 1) pa_nil))))
    (pss_cons (ps_while PassesOwn.never (pt_truth (pv 3) (by intro _; rfl))
      (pss_cons (ps_asg (pe_ix ix_list (pv 3) (pe_un un_neg pe_int) (fun _ _ => rfl)) (pg_tup (by rfl) (pgs_cons (pg_name (i := 6) scRows.nd rfl (.inl rfl)) (pgs_cons (pg_name (i := 7) scRows.nd rfl (.inl rfl)) pgs_nil))))
      (pss_cons (ps_set (i := 3) scRows.nd rfl (.inl rfl) (pe_slice sl_list (pv 3) po_none (po_some (pe_un un_neg pe_int))))
      (pss_one (ps_try_thru0 (pss_one (ps_set (i := 4) scRows.nd rfl (.inl rfl) (pe_op op_cat (pv 4) (pe_lst (pa_cons (pe_tup (pa_cons (pv 6) (pa_cons (pv 7) (pa_cons (pe_c cV hr (by rfl) pass0 (pa_cons (pv 0) (pa_cons (pv 5) (pa_cons (pv 6) (pa_cons (pv 7) pa_nil))))) pa_nil)))) pa_nil))))))))))
    (pss_one (ps_ret (pv 4))))), ?_⟩
  obtain ⟨t, kn, pc, d, z, ks, rfl, ht, hk, hz, hp, hd, hza, k⟩ := h
  refine ⟨_, rfl, pc, _, _, _, rfl, rfl, hp, rfl, ?_⟩
  refine ⟨_, rfl, pc, _, _, _, rfl, rfl, hp, rfl, ?_⟩
  refine ⟨by show 2 ≤ sizeLine; decide, fun w1 hw1 => ?_⟩
  refine ⟨by show 1 ≤ sizeLine; decide, fun wl hwl => ?_⟩
  refine ⟨by show 0 ≤ sizeLine; decide, fun fl hfl => ?_⟩
  refine ⟨_, _, rfl, ?_⟩
  have s3 : Same H (upd (upd (upd H w1 (.tup [.int 0, .non])) wl (.lst [.ref w1])) fl (.lst [])) := by (repeat (first | assumption | exact Same.refl _ | refine same_push ?_ (by assumption)))
  have l1 : (upd (upd (upd H w1 (.tup [.int 0, .non])) wl (.lst [.ref w1])) fl (.lst [])) w1 = some (.tup [.int 0, .non]) := by (repeat (first | assumption | exact upd_same | refine look_push ?_ (by assumption)))
  have l2 : (upd (upd (upd H w1 (.tup [.int 0, .non])) wl (.lst [.ref w1])) fl (.lst [])) wl = some (.lst [.ref w1]) := by (repeat (first | assumption | exact upd_same | refine look_push ?_ (by assumption)))
  have l3 : (upd (upd (upd H w1 (.tup [.int 0, .non])) wl (.lst [.ref w1])) fl (.lst [])) fl = some (.lst []) := upd_same
  have nfl : H fl = none := (show Same H (upd (upd H w1 (.tup [.int 0, .non])) wl (.lst [.ref w1])) by (repeat (first | assumption | exact Same.refl _ | refine same_push ?_ (by assumption)))).free hfl
  generalize hG : (upd (upd (upd H w1 (.tup [.int 0, .non])) wl (.lst [.ref w1])) fl (.lst [])) = G at s3 l1 l2 l3 ⊢
  intro p hp0
  have s4 := same_new (o := .dK []) hp0
  refine ⟨_, rfl, pc, _, _, _, rfl, rfl, same_tup (s3.trans s4) hp, rfl, ?_⟩
  refine ⟨d, [], rfl, ne_of_none (s3 _ _ hd) hp0, s4 _ _ (s3 _ _ hd), upd_same, Nat.zero_le _, fun q hq => ?_⟩
  have pq : p ≠ q := fun e => by
    rw [e, upd_same] at hq
    cases hq
  have hq1 : G q = none := by
    have z := hq
    rw [upd_ne (Ne.symm pq), upd_ne (Ne.symm pq)] at z
    exact z
  have s5 : Same G (upd (upd (upd G p (.dK [])) p (.dK (mergeK [] []))) q (.dK [])) := fun b o e => by
    rw [upd_ne (ne_of_none e hq1), upd_ne (ne_of_none e hp0), upd_ne (ne_of_none e hp0)]
    exact e
  refine ⟨_, rfl, kn, ks, rfl, same_tup (s3.trans s5) hk, hz, fun H3 sp sm => ?_⟩
  refine ⟨sm _ _ upd_same, sm _ _ (by rw [upd_ne pq]; exact upd_same), Sum.inr "all", rfl, ?_⟩
  have s6 : Same G (upd (upd H3 q (.dK [(Sum.inr "all", .ref sp)])) p (.dK (mergeK (mergeK [] []) [(Sum.inr "all", .ref sp)]))) := same_upd hp0 (same_upd hq1 (s5.trans sm))
  have e6 : (upd (upd H3 q (.dK [(Sum.inr "all", .ref sp)])) p (.dK (mergeK (mergeK [] []) [(Sum.inr "all", .ref sp)]))) p = some (.dK [(Sum.inr "all", .ref sp)]) := upd_same
  generalize hG4 : (upd (upd H3 q (.dK [(Sum.inr "all", .ref sp)])) p (.dK (mergeK (mergeK [] []) [(Sum.inr "all", .ref sp)]))) = G4 at s6 e6 ⊢
  have hE : valV [((Sum.inr "all" : L2.Key), V.ref sp)] (Sum.inr z) = none := by
    unfold valV
    simp [Ne.symm hza]
  refine ⟨fun m σ H' => (m = 1 ∧ σ = [some (.ref t), some (.ref kn), some (.ref pc), some (.ref wl), some (.ref fl), some (.ref p), none, none, none] ∧ H' = G4) ∨
    (m = 0 ∧ ∃ wl' fl' r lo hi, σ = [some (.ref t), some (.ref kn), some (.ref pc), some (.ref wl'), some (.ref fl'), some (.ref p), lo, hi, none] ∧ Same H H' ∧ H' wl' = some (.lst []) ∧ H' fl' = some (.lst [.ref r]) ∧ H' r = some (.tup [.int 0, .non, .ref eE]) ∧ H fl' = none ∧ H r = none),
    ⟨1, .inl ⟨rfl, rfl, rfl⟩⟩, ?_⟩
  rintro m σ H' (⟨rfl, rfl, rfl⟩ | ⟨rfl, wl', fl', r, lo, hi, rfl, sm', e1, e2, e3, n1, n2⟩)
  · refine ⟨_, rfl, true, .inl ⟨_, SqL.of (s6 _ _ l2), rfl⟩, iteT ?_⟩
    refine ⟨fun σ H' => ∃ wl' fl' r lo hi, σ = [some (.ref t), some (.ref kn), some (.ref pc), some (.ref wl'), some (.ref fl'), some (.ref p), lo, hi, none] ∧ Same H H' ∧ H' wl' = some (.lst []) ∧ H' fl' = some (.lst [.ref r]) ∧ H' r = some (.tup [.int 0, .non, .ref eE]) ∧ H fl' = none ∧ H r = none,
      fun σ' H'' q => ⟨0, Nat.zero_lt_one, .inr ⟨rfl, q⟩⟩, ?_⟩
    refine ⟨_, rfl, 1, rfl, wl, _, _, _, rfl, rfl, SqL.of (s6 _ _ l2), rfl, ?_⟩
    refine ⟨w1, _, rfl, .inl (.inl (s6 _ _ l1)), rfl, _, _, rfl, _, _, rfl, rfl, ?_⟩
    refine ⟨_, rfl, 1, rfl, _, rfl, wl, _, rfl, SqL.of (s6 _ _ l2), fun wl' hwl' => ?_⟩
    have s7 := same_new (o := .lst (cutV [V.ref w1] none (some (-1)))) hwl'
    refine ⟨_, rfl, _, rfl, _, rfl, _, rfl, _, rfl, _, rfl, _, rfl, ?_⟩
    refine ⟨t, p, _, _, z, _, rfl, same_tup (s3.trans (s6.trans s7)) ht, s7 _ _ e6, hE, fun H5 s8 => ?_⟩
    have s9 : Same H H5 := s3.trans (s6.trans (s7.trans s8))
    refine ⟨by show 3 ≤ sizeLine; decide, fun r hr => ?_⟩
    refine ⟨by show 1 ≤ sizeLine; decide, fun ll hll => ?_⟩
    have s10 := (same_new (o := .tup [V.int 0, V.non, V.ref eE]) hr).trans (same_new (o := .lst [V.ref r]) hll)
    refine ⟨fl, ll, [], [.ref r], rfl, rfl, s10 _ _ (s8 _ _ (s7 _ _ (s6 _ _ l3))), upd_same, by show 1 ≤ sizeLine; decide, fun fl' hfl' => ?_⟩
    have s11 := same_new (o := .lst ([] ++ [V.ref r])) hfl'
    refine ⟨wl', fl', r, _, _, rfl, s9.trans (s10.trans s11), s11 _ _ (s10 _ _ (s8 _ _ upd_same)), upd_same, s11 _ _ ?_, ?_, s9.free hr⟩
    · (repeat (first | assumption | exact upd_same | refine look_push ?_ (by assumption)))
    · exact (s9.trans s10).free hfl'
  · refine ⟨_, rfl, false, .inl ⟨_, SqL.of e1, rfl⟩, iteF ?_⟩
    exact ⟨_, rfl, k _ _ _ sm' n1 n2 e2 e3⟩
end
end FD
end
section
set_option Elab.async false
set_option linter.all false
set_option maxRecDepth 100000
set_option maxHeartbeats 4000000
namespace FE
open PySem PySem.Spec PyProof.Rows L2 FK FA FB FC FD
theorem pi_listK {X : Cx} {K : PySem.W.Frag} {tg l : Expr} {tl : TE} (hK : X.K = K) (hl : PE X l tl) : PI X tg l (iList K tl) := hK ▸ pi_list hl
def spVals (K : PySem.W.Frag) (eE : Addr) : Sp := fun vs H Q _ => ∃ t kn pl pc d z ks, vs = [.ref t, .ref kn, .ref pl] ∧ SqT K H t [.str "var", .str z] ∧ SqT K H kn ks ∧ ks.length ≤ 1000 ∧ H pl = some (.lst [.ref pc]) ∧ SqT K H pc [.int 0, .non, .ref d] ∧ H d = some (.dK []) ∧ z ≠ "all" ∧
  ∀ H' l r, Same H H' → H l = none → H r = none → H' l = some (.lst [.ref r]) → H' r = some (.tup [.int 0, .non, .ref eE]) → Q (.ref l) H'
noncomputable abbrev sVals : Stmt := HK.stA TW 184
theorem scVals : FnScope ["tree", "known", "pieces", "piece", "row"] ["tree", "known", "pieces"] (defScope sVals) := ⟨rfl, rfl, rfl, by decide +kernel, rfl, by decide +kernel, by decide +kernel⟩
section
variable {P : Program} {w : World} {K : PySem.W.Frag} {mg : PySem.Str → Option Value} {base : Heap} {f eE : Addr} {fd : FuncData}
theorem okVals (F : L2.Fun K "values" "values" sVals f fd) (cR : Cal P w K mg base CX0 2 "value_rows" (spRows K eE)) : FnOk P w K mg base CX0 3 f fd ["tree", "known", "pieces"] (spVals K eE) := by
  refine F.ok scVals (fun vs H Q E h => by obtain ⟨t, kn, pl, pc, d, z, ks, rfl, _⟩ := h; rfl) (fun cdv A outer s H vs Q E hr h => ?_)
  refine ⟨_, pss_one (ps_ret (pe_lc2 (own := [("piece", 3), ("row", 4)]) (vs1 := [4]) (g := gName 3) (tt := tYes) (g1 := gName 4) (tt1 := tYes) rfl scVals.nd (pi_list (pv 2)) (blkOk_by (own := [("piece", 3), ("row", 4)]) (N := ["tree", "known", "pieces", "piece", "row"]) (sc := defScope sVals) (by decide +kernel)) (by decide) (fun _ _ _ _ _ => pg_name (i := 3) scVals.nd rfl (Or.inl rfl)) (fun _ _ _ _ _ => pts_nil)
    (fun s H C cl fp => pi_listK (K := K) rfl (pe_c cR hr (by rfl) pass0 (pa_cons (pv 0) (pa_cons (pv 1) (pa_cons (pv 3) pa_nil))))) (fun _ _ _ _ _ => pg_name (i := 4) scVals.nd rfl (Or.inl rfl)) (fun _ _ _ _ _ => pts_nil) (fun _ _ _ _ _ => pv 4))), ?_⟩
  obtain ⟨t, kn, pl, pc, d, z, ks, rfl, ht, hk, hz, hpl, hpc, hd, hza, k⟩ := h
  refine ⟨_, rfl, pl, rfl, ⟨_, SqL.of hpl⟩, fun D hD => ?_⟩
  have s1 := same_new (o := .lst []) hD
  refine ⟨fun i m H' => (i = 0 ∧ m = 1 ∧ H' = upd H D (.lst [])) ∨ (i = 1 ∧ m = 0 ∧ Same H H' ∧ H' pl = some (.lst [.ref pc]) ∧ ∃ r, H' D = some (.lst [.ref r]) ∧ H' r = some (.tup [.int 0, .non, .ref eE]) ∧ H r = none), ⟨1, .inl ⟨rfl, rfl, rfl⟩⟩, ?_⟩
  rintro i m H' (⟨rfl, rfl, rfl⟩ | ⟨rfl, rfl, s, e0, r, e1, e2, n1⟩)
  · refine .inr ⟨⟨_, .ref pc, SqL.of (s1 _ _ hpl), rfl⟩, fun H' => Same H H' ∧ H' pl = some (.lst [.ref pc]) ∧ ∃ r, H' D = some (.lst [.ref r]) ∧ H' r = some (.tup [.int 0, .non, .ref eE]) ∧ H r = none, fun H' q => ⟨0, Nat.zero_lt_one, .inr ⟨rfl, rfl, q⟩⟩, fun x H' y => ?_⟩
    obtain ⟨rfl, hx⟩ := y
    obtain rfl : V.ref pc = x := Option.some.inj (hx _ (SqL.of (s1 _ _ hpl)))
    refine ⟨rfl, ?_⟩
    dsimp only [tYes]
    rw [if_pos rfl]
    refine ⟨_, rfl, _, rfl, _, rfl, t, kn, pc, d, z, ks, rfl, same_tup s1 ht, same_tup s1 hk, hz, same_tup s1 hpc, s1 _ _ hd, hza, fun H2 l r s2 nl nr el er => ?_⟩
    have s12 := s1.trans s2
    have nlD : D ≠ l := fun z => by
      rw [← z, upd_same] at nl
      cases nl
    have nrD : D ≠ r := fun z => by
      rw [← z, upd_same] at nr
      cases nr
    refine ⟨l, rfl, ⟨_, SqL.of el⟩, ?_⟩
    refine ⟨fun j m H' => (j = 0 ∧ m = 1 ∧ H' = H2) ∨ (j = 1 ∧ m = 0 ∧ H' = upd H2 D (.lst [.ref r])), ⟨1, .inl ⟨rfl, rfl, rfl⟩⟩, ?_⟩
    rintro j m H' (⟨rfl, rfl, rfl⟩ | ⟨rfl, rfl, rfl⟩)
    · refine .inr ⟨⟨_, .ref r, SqL.of el, rfl⟩, fun H' => H' = upd _ D (.lst [.ref r]), fun H' q => ⟨0, Nat.zero_lt_one, .inr ⟨rfl, rfl, q⟩⟩, fun x H' y => ?_⟩
      obtain ⟨rfl, hx⟩ := y
      obtain rfl : V.ref r = x := Option.some.inj (hx _ (SqL.of el))
      refine ⟨rfl, ?_⟩
      rw [if_pos rfl]
      exact ⟨_, rfl, [], s2 _ _ upd_same, by show 0 < sizeLine; decide, rfl⟩
    · have nl' : l ≠ D := Ne.symm nlD
      refine .inl ⟨⟨_, SqL.of (by rw [upd_ne nl']; exact el), Nat.le_refl _⟩, ?_, ?_, r, upd_same, by rw [upd_ne (Ne.symm nrD)]; exact er, s1.free nr⟩
      · exact same_upd hD s12
      · rw [upd_ne (ne_of_none hpl hD)]
        exact s12 _ _ hpl
  · exact .inl ⟨⟨_, SqL.of e0, Nat.le_refl _⟩, k _ _ r s hD n1 e1 e2⟩
end
end FE
end
section
set_option Elab.async false
set_option linter.all false
set_option maxRecDepth 100000
set_option maxHeartbeats 4000000
namespace FF
open PySem PySem.Spec PyProof.Rows L2 FK FA FB FC FD
theorem pi_listK {X : Cx} {K : PySem.W.Frag} {tg l : Expr} {tl : TE} (hK : X.K = K) (hl : PE X l tl) : PI X tg l (iList K tl) := hK ▸ pi_list hl
theorem pi_tupK {X : Cx} {K : PySem.W.Frag} {tg l : Expr} {tl : TE} (hK : X.K = K) (hl : PE X l tl) : PI X tg l (iTup K tl) := hK ▸ pi_tup hl
theorem pt_no {X : Cx} {e : Expr} : PT X e (fun _ _ _ => False) := ⟨fun _ _ _ _ _ _ h => h.elim⟩
def Std (K : PySem.W.Frag) (CS : Addr) (H : Hp) (a : Addr) (ks : List V) : Prop := ∃ dx kn pl pc d td ru gu sp, H a = some (.ins CS dx [("known", .ref kn), ("limit", .int 60), ("pieces", .ref pl), ("told", .ref td), ("rules", .ref ru), ("guards", .ref gu), ("steps", .ref sp)]) ∧
  SqT K H kn ks ∧ H pl = some (.lst [.ref pc]) ∧ SqT K H pc [.int 0, .non, .ref d] ∧ H d = some (.dK []) ∧ SqT K H td [] ∧ SqT K H ru [] ∧ SqT K H gu [] ∧ SqT K H sp []
theorem Std.same {K : PySem.W.Frag} {CS : Addr} {H H' : Hp} {a : Addr} {ks : List V} (s : Same H H') (h : Std K CS H a ks) : Std K CS H' a ks := by
  obtain ⟨dx, kn, pl, pc, d, td, ru, gu, sp, h0, h1, h2, h3, h4, h5, h6, h7, h8⟩ := h
  exact ⟨dx, kn, pl, pc, d, td, ru, gu, sp, s _ _ h0, same_tup s h1, s _ _ h2, same_tup s h3, s _ _ h4, same_tup s h5, same_tup s h6, same_tup s h7, same_tup s h8⟩
structure Cf (K : PySem.W.Frag) (C : Addr) (fs : List PySem.Str) : Prop where
  c : Cls K C
  n : ∀ f ∈ fs, NoAttr K C f
def spRuled (K : PySem.W.Frag) (CS : Addr) : Sp := fun vs H Q _ => ∃ a ks, vs = [.ref a] ∧ Std K CS H a ks ∧ ∀ H' p, Same H H' → H p = none → H' p = some (.lst []) → Q (.ref p) H'
noncomputable abbrev sRuled : Stmt := HK.stA TW 210
theorem scRuled : FnScope ["standing", "name", "clauses"] ["standing"] (defScope sRuled) := ⟨rfl, rfl, rfl, by decide +kernel, rfl, by decide +kernel, by decide +kernel⟩
def spJoined : Sp := fun vs H Q _ => ∃ a b, vs = [.ref a, .ref b] ∧ H a = some (.lst []) ∧ H b = some (.lst []) ∧ ∀ H' p, Same H H' → H p = none → H' p = some (.lst []) → Q (.ref p) H'
noncomputable abbrev sJoined : Stmt := HK.stA TW 61
theorem scJoined : FnScope ["words", "more", "word"] ["words", "more"] (defScope sJoined) := ⟨rfl, rfl, rfl, by decide +kernel, rfl, by decide +kernel, by decide +kernel⟩
def spTrim (K : PySem.W.Frag) : Sp := fun vs H Q _ => ∃ a, vs = [.ref a] ∧ H a = some (.lst [.int 0]) ∧ ∀ H' p, Same H H' → SqT K H' p [] → Q (.ref p) H'
noncomputable abbrev sTrim : Stmt := HK.stA TW 98
theorem scTrim : FnScope ["row", "many"] ["row"] (defScope sTrim) := ⟨rfl, rfl, rfl, by decide +kernel, rfl, by decide +kernel, by decide +kernel⟩
def spWhole (K : PySem.W.Frag) : Sp := fun vs H Q _ => vs = [.int 0] ∧ ∀ H' p, Same H H' → SqT K H' p [] → Q (.ref p) H'
noncomputable abbrev sWhole : Stmt := HK.stA TW 99
theorem scWhole : FnScope ["number"] ["number"] (defScope sWhole) := ⟨rfl, rfl, rfl, by decide +kernel, rfl, by decide +kernel, by decide +kernel⟩
def spRowV (K : PySem.W.Frag) : Sp := fun vs H Q _ => ∃ a x, vs = [.ref a, x] ∧ SqT K H a [] ∧ ∀ H', Same H H' → Q (.int 0) H'
noncomputable abbrev sRowV : Stmt := HK.stA TW 100
theorem scRowV : FnScope ["row", "n", "total", "choose", "k", "number"] ["row", "n"] (defScope sRowV) := ⟨rfl, rfl, rfl, by decide +kernel, rfl, by decide +kernel, by decide +kernel⟩
section
variable {P : Program} {w : World} {K : PySem.W.Frag} {mg : PySem.Str → Option Value} {base : Heap} {f : Addr} {fd : FuncData}
theorem okRuled {CS : Addr} (F : L2.Fun K "ruled_names" "ruled_names" sRuled f fd) (T : Cf K CS ["rules"]) : FnOk P w K mg base CX0 1 f fd ["standing"] (spRuled K CS) := by
  refine F.ok scRuled (fun vs H Q E h => by obtain ⟨a, x, rfl, _⟩ := h; rfl) (fun cdv A outer s H vs Q E hr h => ?_)
  refine ⟨_, pss_one (ps_ret (pe_lc (own := [("name", 1), ("clauses", 2)]) (g := fun _ _ _ _ => False) (tt := tYes) rfl scRuled.nd (pi_tup (pe_fld (pv 0) rfl)) (blkOk_by (own := [("name", 1), ("clauses", 2)]) (N := ["standing", "name", "clauses"]) (sc := defScope sRuled) (by decide +kernel)) (fun _ _ _ _ _ => pg_no) (fun _ _ _ _ _ => pts_nil)
    (fun _ _ _ _ _ => pe_no))), ?_⟩
  obtain ⟨a, ks, rfl, hs, k⟩ := h
  obtain ⟨dx, kn, pl, pc, d, td, ru, gu, sp, h0, h1, h2, h3, h4, h5, h6, h7, h8⟩ := hs
  refine ⟨_, rfl, a, CS, dx, _, _, rfl, h0, T.c, T.n _ (by decide), rfl, ru, rfl, ⟨_, h6⟩, fun D hD => ?_⟩
  exact for_noneC walkT0 (same_tup (same_new hD) h6) (k _ D (same_new hD) hD upd_same)
theorem okJoined (F : L2.Fun K "joined" "joined" sJoined f fd) : FnOk P w K mg base CX0 1 f fd ["words", "more"] spJoined := by
  refine F.ok scJoined (fun vs H Q E h => by obtain ⟨a, x, rfl, _⟩ := h; rfl) (fun cdv A outer s H vs Q E hr h => ?_)
  refine ⟨_, pss_one (ps_ret (pe_op op_cat (pv 0) (pe_lc (own := [("word", 2)]) (g := fun _ _ _ _ => False) rfl scJoined.nd (pi_list (pv 1)) (blkOk_by (own := [("word", 2)]) (N := ["words", "more", "word"]) (sc := defScope sJoined) (by decide +kernel)) (fun _ _ _ _ _ => pg_no) (fun _ _ _ _ _ => pts_one pt_no)
    (fun _ _ _ _ _ => pe_no)))), ?_⟩
  obtain ⟨a, b, rfl, ha, hb, k⟩ := h
  refine ⟨_, rfl, _, rfl, b, rfl, ⟨_, SqL.of hb⟩, fun D hD => ?_⟩
  have s1 := same_new (o := .lst []) hD
  refine for_noneC walkL0 (SqL.of (s1 _ _ hb)) ?_
  refine ⟨a, D, [], [], rfl, rfl, s1 _ _ ha, upd_same, Nat.zero_le _, fun p hp => ?_⟩
  exact k _ p (s1.trans (same_new hp)) (s1.free hp) upd_same
theorem okTrim (F : L2.Fun K "trimmed" "trimmed" sTrim f fd) (B : Bt mg) : FnOk P w K mg base CX0 1 f fd ["row"] (spTrim K) := by
  refine F.ok scTrim (fun vs H Q E h => by obtain ⟨a, rfl, _⟩ := h; rfl) (fun cdv A outer s H vs Q E hr h => ?_)
  refine ⟨_, pss_cons (ps_set (i := 1) scTrim.nd rfl (.inl rfl) (pe_callB call_len_seq (by rfl) (B _ (by decide)) (by decide +kernel) (pa_cons (pv 0) pa_nil)))
    (pss_cons (ps_while PassesOwn.never (PW.pt (pw_and (pt_cmpR op_gt (pv 1) pe_int (nomark _)) (pw_and1 (pt_cmpR op_eq (pe_ix ix_list (pv 0) (pe_op op_sub (pv 1) pe_int) (fun _ _ => rfl)) pe_int (nomark _)))))
      (pss_one (ps_set (i := 1) scTrim.nd rfl (.inl rfl) (pe_op op_sub (pv 1) pe_int))))
    (pss_one (ps_ret (pe_callTy call_tuple_of (by rfl) (B _ (by decide)) (by decide +kernel) (pa_cons (pe_slice sl_list (pv 0) po_none (po_some (pv 1))) pa_nil))))), ?_⟩
  obtain ⟨a, rfl, ha, k⟩ := h
  refine ⟨_, rfl, a, _, rfl, .inl (SqL.of ha), ?_⟩
  refine ⟨fun m σ H' => H' = H ∧ ((m = 1 ∧ σ = [some (.ref a), some (.int 1)]) ∨ (m = 0 ∧ σ = [some (.ref a), some (.int 0)])), ⟨1, rfl, .inl ⟨rfl, rfl⟩⟩, ?_⟩
  rintro m σ H' ⟨rfl, ⟨rfl, rfl⟩ | ⟨rfl, rfl⟩⟩
  · refine ⟨_, rfl, _, _, rfl, rfl, _, rfl, iteT ?_⟩
    refine ⟨_, rfl, _, rfl, _, _, rfl, rfl, a, _, _, _, rfl, rfl, SqL.of ha, rfl, rfl, _, rfl, iteT ?_⟩
    refine ⟨fun σ H'' => H'' = H' ∧ σ = [some (.ref a), some (.int 0)], fun σ' H'' q => ⟨0, Nat.zero_lt_one, q.1, .inr ⟨rfl, q.2⟩⟩, ?_⟩
    exact ⟨_, rfl, _, _, rfl, rfl, rfl, rfl⟩
  · refine ⟨_, rfl, _, _, rfl, rfl, _, rfl, iteF ?_⟩
    refine iteF ?_
    refine ⟨_, rfl, _, rfl, _, rfl, a, _, rfl, SqL.of ha, fun p hp => ?_⟩
    have s1 := same_new (o := .lst (cutV [V.int 0] none (some 0))) hp
    refine ⟨p, [], rfl, .inl ⟨SqL.of upd_same, fun q hq => ?_⟩⟩
    exact k _ q (s1.trans (same_new hq)) (.inl (.inl upd_same))
theorem okWhole (F : L2.Fun K "whole_row" "whole_row" sWhole f fd) (c : Cal P w K mg base CX0 1 "trimmed" (spTrim K)) : FnOk P w K mg base CX0 2 f fd ["number"] (spWhole K) := by
  refine F.ok scWhole (fun vs H Q E h => by obtain ⟨rfl, _⟩ := h; rfl) (fun cdv A outer s H vs Q E hr h => ?_)
  refine ⟨_, pss_one (ps_ret (pe_c c hr (by rfl) pass0 (pa_cons (pe_lst (pa_cons (pv 0) pa_nil)) pa_nil))), ?_⟩
  obtain ⟨rfl, k⟩ := h
  refine ⟨_, rfl, by show 1 ≤ sizeLine; decide, fun l hl => ?_⟩
  exact ⟨l, rfl, upd_same, fun H' p s h => k H' p ((same_new hl).trans s) h⟩
theorem okRowV (F : L2.Fun K "row_value" "row_value" sRowV f fd) (B : Bt mg) : FnOk P w K mg base CX0 1 f fd ["row", "n"] (spRowV K) := by
  refine F.ok scRowV (fun vs H Q E h => by obtain ⟨a, x, rfl, _⟩ := h; rfl) (fun cdv A outer s H vs Q E hr h => ?_)
  refine ⟨_, pss_cons (ps_set (i := 2) scRowV.nd rfl (.inl rfl) pe_int) (pss_cons (ps_set (i := 3) scRowV.nd rfl (.inl rfl) pe_int) (pss_cons (ps_for PassesOwn.never rfl (EN.pi_enumT (by rfl) (B _ (by decide)) (pa_cons (pv 0) pa_nil)) (pg_tup (by rfl) (pgs_cons (pg_name (i := 4) scRowV.nd rfl (.inl rfl)) (pgs_cons (pg_name (i := 5) scRowV.nd rfl (.inl rfl)) pgs_nil))) pss_never)
    (pss_one (ps_ret (pv 2))))), ?_⟩
  obtain ⟨a, x, rfl, ha, k⟩ := h
  exact ⟨_, rfl, a, [], rfl, ha, for_none walkE0 ha ⟨_, rfl, k _ (Same.refl _)⟩⟩
end
end FF
end
section
set_option Elab.async false
set_option linter.all false
set_option maxRecDepth 100000
set_option maxHeartbeats 4000000
namespace FH
open PySem PySem.Spec PyProof.Rows L2 FK FA FB FC FD FF
theorem pg_tupK {X : Cx} {K : PySem.W.Frag} {es : List Expr} {k : Nat} {pos : Pos} {t : TGs} {n : Nat} (hK : X.K = K) (hc : X.calm = true) (h : PGs X es t)
    (hn : (assignEach es X.env).length = n := by rfl) (hst : (assignEach es X.env).findIdx? (·.1) = none := by rfl) : PG X (.Tuple es k pos) (gTup K n t) := hK ▸ pg_tup hc h hn hst
theorem iteF' {c : Bool} {A B : Prop} (hc : c = false) (h : B) : if c = true then A else B := by
  rw [hc]
  exact iteF h
theorem iteT' {c : Bool} {A B : Prop} (hc : c = true) (h : A) : if c = true then A else B := by
  rw [hc]
  exact iteT h
theorem for_noneS {J : It} {G : Hp → Prop} {Y : Nat → Hp → V → Hp → Prop} (wk : L2.Walk J 0 G Y) {σ0 : L2.St} {H0 : Hp} {Dn : L2.St → Hp → Prop} {T : Nat → Nat → L2.St → Hp → (L2.St → Hp → Prop) → V → Hp → Prop} (hG : G H0) (hd : Dn σ0 H0) :
    ∃ W : Nat → Nat → L2.St → Hp → Prop, (∃ m, W 0 m σ0 H0) ∧ ∀ i m σ H, W i m σ H →
      (J.stop i H ∧ Dn σ H) ∨ (J.go i H ∧ ∃ N : L2.St → Hp → Prop, (∀ σ' H', N σ' H' → ∃ m', m' < m ∧ W (i + 1) m' σ' H') ∧ ∀ x H', J.yld i H x H' → T i m σ H N x H') :=
  ⟨fun i _ σ H => i = 0 ∧ σ = σ0 ∧ H = H0, ⟨0, rfl, rfl, rfl⟩, fun i m σ H e => .inl (by obtain ⟨rfl, rfl, rfl⟩ := e; exact ⟨wk.stops _ hG, hd⟩)⟩
def Fam (K : PySem.W.Frag) (CF eE : Addr) (H : Hp) (a : Addr) (ks : List V) : Prop := ∃ dx kn rl r, H a = some (.ins CF dx [("known", .ref kn), ("rows", .ref rl)]) ∧ SqT K H kn ks ∧ H rl = some (.lst [.ref r]) ∧ SqT K H r [.int 0, .non, .ref eE]
theorem Fam.same {K : PySem.W.Frag} {CF eE : Addr} {H H' : Hp} {a : Addr} {ks : List V} (s : Same H H') (h : Fam K CF eE H a ks) : Fam K CF eE H' a ks := by
  obtain ⟨dx, kn, rl, r, h0, h1, h2, h3⟩ := h
  exact ⟨dx, kn, rl, r, s _ _ h0, same_tup s h1, s _ _ h2, same_tup s h3⟩
def spCR (K : PySem.W.Frag) (eE : Addr) : Sp := fun vs H Q _ => ∃ n : Int, vs = [.ref eE, .int n, .int n] ∧ ∀ H' p, Same H H' → SqT K H' p [] → Q (.ref p) H'
noncomputable abbrev sCR : Stmt := HK.stA TW 145
theorem scCR : FnScope ["value", "low", "high", "total", "labels", "term"] ["value", "low", "high"] (defScope sCR) := ⟨rfl, rfl, rfl, by decide +kernel, rfl, by decide +kernel, by decide +kernel⟩
def spNum (K : PySem.W.Frag) : Sp := fun vs H Q _ => ∃ a, vs = [.ref a] ∧ SqT K H a [] ∧ ∀ H', Same H H' → Q (.int 0) H'
noncomputable abbrev sNum : Stmt := HK.stA TW 151
theorem scNum : FnScope ["row"] ["row"] (defScope sNum) := ⟨rfl, rfl, rfl, by decide +kernel, rfl, by decide +kernel, by decide +kernel⟩
def spCA (eE : Addr) : Sp := fun vs H Q _ => ∃ n : Int, vs = [.ref eE, .int n] ∧ ∀ H', Same H H' → Q (.int 0) H'
noncomputable abbrev sCA : Stmt := HK.stA TW 152
theorem scCA : FnScope ["value", "n"] ["value", "n"] (defScope sCA) := ⟨rfl, rfl, rfl, by decide +kernel, rfl, by decide +kernel, by decide +kernel⟩
noncomputable abbrev sTS : Stmt := HK.stA TW 153
theorem scTS : FnScope ["value", "n", "part", "sizes", "row"] ["value", "n"] (defScope sTS) := ⟨rfl, rfl, rfl, by decide +kernel, rfl, by decide +kernel, by decide +kernel⟩
def spSh (K : PySem.W.Frag) (eE : Addr) : Sp := fun vs H Q _ => ∃ n : Int, vs = [.ref eE, .int n] ∧ ∀ H' p q, Same H H' → SqT K H' p [.str "set", .ref q] → SqT K H' q [] → Q (.ref p) H'
noncomputable abbrev sSh : Stmt := HK.stA TW 155
theorem scSh : FnScope ["value", "n", "part", "table", "labels", "term", "numbers", "one", "images", "key", "word"] ["value", "n"] (defScope sSh) := ⟨rfl, rfl, rfl, by decide +kernel, rfl, by decide +kernel, by decide +kernel⟩
def spSW (K : PySem.W.Frag) (eE : Addr) : Sp := fun vs H Q _ => ∃ n m : Int, 0 ≤ m ∧ vs = [.ref eE, .int n, .int m] ∧ ∀ H' p q, Same H H' → SqT K H' p [.str "set", .ref q] → SqT K H' q [] → Q (.ref p) H'
noncomputable abbrev sSW : Stmt := HK.stA TW 156
theorem scSW : FnScope ["value", "n", "most", "size"] ["value", "n", "most"] (defScope sSW) := ⟨rfl, rfl, rfl, by decide +kernel, rfl, by decide +kernel, by decide +kernel⟩
def spVA (K : PySem.W.Frag) (CF eE : Addr) : Sp := fun vs H Q _ => ∃ a ks, ∃ n : Int, vs = [.ref a, .int n] ∧ 0 ≤ n ∧ Fam K CF eE H a ks ∧ ∀ H', Same H H' → Q (.ref eE) H'
noncomputable abbrev sVA : Stmt := HK.stA TW 196
theorem scVA : FnScope ["family", "n", "low", "high", "value"] ["family", "n"] (defScope sVA) := ⟨rfl, rfl, rfl, by decide +kernel, rfl, by decide +kernel, by decide +kernel⟩
section
variable {P : Program} {w : World} {K : PySem.W.Frag} {mg : PySem.Str → Option Value} {base : Heap} {f eE e1 e2 CF : Addr} {fd : FuncData}
theorem okCR (F : L2.Fun K "count_row" "count_row" sCR f fd) (Em : Emp K mg eE e1 e2) (cW : Cal P w K mg base CX0 2 "whole_row" (spWhole K)) (cR : Cal P w K mg base CX0 1 "row_value" (spRowV K)) : FnOk P w K mg base CX0 3 f fd ["value", "low", "high"] (spCR K eE) := by
  refine F.ok scCR (fun vs H Q E h => by obtain ⟨a, rfl, _⟩ := h; rfl) (fun cdv A outer s H vs Q E hr h => ?_)
  refine ⟨_, pss_cons (ps_set (i := 3) scCR.nd rfl (.inl rfl) (pe_tup pa_nil))
    (pss_cons (ps_if (pt_cmpR op_eq (pe_ix ix_tup (pv 0) pe_int (fun _ _ => rfl)) pe_str (nomark _)) (pss_one (ps_for PassesOwn.never rfl (pi_tup (pe_ix ix_tup (pv 0) pe_int (fun _ _ => rfl))) (pg_tup (by rfl) (pgs_cons (pg_name (i := 4) scCR.nd rfl (.inl rfl)) (pgs_cons (pg_name (i := 5) scCR.nd rfl (.inl rfl)) pgs_nil))) pss_never)) pss_nil)
    (pss_one (ps_ret (pe_ifExp (pt_cmpR op_ne (pv 1) (pv 2) (nomark _)) (pv 3) (pe_c cW hr (by rfl) pass0 (pa_cons (pe_c cR (hr.mono (by decide)) (by rfl) pass0 (pa_cons (pv 3) (pa_cons (pv 1) pa_nil))) pa_nil)))))), ?_⟩
  obtain ⟨n, rfl, k⟩ := h
  refine ⟨by show 0 ≤ sizeLine; decide, fun p hp => ?_⟩
  have s1 := same_new (o := .tup []) hp
  refine ⟨_, rfl, eE, _, _, _, rfl, rfl, Em.s _, rfl, rfl, _, rfl, iteT ?_⟩
  refine ⟨_, rfl, eE, _, _, _, rfl, rfl, Em.s _, rfl, e2, rfl, ⟨_, Em.s2 _⟩, ?_⟩
  refine for_noneS walkT0 (Em.s2 _) ?_
  refine ⟨_, rfl, _, rfl, rfl, _, rfl, ?_⟩
  have hd : (!decide (V.int n = V.int n)) = false := by simp
  refine iteF' hd ?_
  refine ⟨_, rfl, _, rfl, p, _, rfl, .inl (.inl upd_same), fun H2 s2 => ?_⟩
  exact ⟨rfl, fun H' q s3 h => k H' q (s1.trans (s2.trans s3)) h⟩
theorem okNum (F : L2.Fun K "number" "number" sNum f fd) : FnOk P w K mg base CX0 1 f fd ["row"] (spNum K) := by
  refine F.ok scNum (fun vs H Q E h => by obtain ⟨a, rfl, _⟩ := h; rfl) (fun cdv A outer s H vs Q E hr h => ?_)
  refine ⟨_, pss_one (ps_ret (pe_ifExp (pt_truth (pv 0) (by intro _; rfl)) pe_no pe_int)), ?_⟩
  obtain ⟨a, rfl, ha, k⟩ := h
  exact ⟨_, rfl, false, .inr (.inl ⟨_, ha, rfl⟩), iteF (k _ (Same.refl _))⟩
theorem okCA (F : L2.Fun K "count_at" "count_at" sCA f fd) (cR : Cal P w K mg base CX0 3 "count_row" (spCR K eE)) (cN : Cal P w K mg base CX0 1 "number" (spNum K)) : FnOk P w K mg base CX0 4 f fd ["value", "n"] (spCA eE) := by
  refine F.ok scCA (fun vs H Q E h => by obtain ⟨a, rfl, _⟩ := h; rfl) (fun cdv A outer s H vs Q E hr h => ?_)
  refine ⟨_, pss_one (ps_ret (pe_c cN (hr.mono (by decide)) (by rfl) pass0 (pa_cons (pe_c cR hr (by rfl) pass0 (pa_cons (pv 0) (pa_cons (pv 1) (pa_cons (pv 1) pa_nil)))) pa_nil))), ?_⟩
  obtain ⟨n, rfl, k⟩ := h
  refine ⟨_, rfl, _, rfl, _, rfl, n, rfl, fun H' p s h => ?_⟩
  exact ⟨p, rfl, h, fun H2 s2 => k _ (s.trans s2)⟩
theorem okTS (F : L2.Fun K "tree_size" "tree_size" sTS f fd) (B : Bt mg) (Em : Emp K mg eE e1 e2) : FnOk P w K mg base CX0 1 f fd ["value", "n"] (spCA eE) := by
  refine F.ok scTS (fun vs H Q E h => by obtain ⟨a, rfl, _⟩ := h; rfl) (fun cdv A outer s H vs Q E hr h => ?_)
  refine ⟨_, pss_cons (ps_if (pt_cmpR op_eq (pe_ix ix_tup (pv 0) pe_int (fun _ _ => rfl)) pe_str (nomark _)) pss_never pss_nil)
    (pss_cons (ps_if (pt_cmpR op_ne (pe_ix ix_tup (pv 0) pe_int (fun _ _ => rfl)) pe_str (nomark _)) pss_never pss_nil)
    (pss_cons (ps_setLc (i := 3) (own := [("row", 4)]) (g := fun _ _ _ _ => False) (tt := tYes) rfl scTS.nd rfl rfl (sw_true rfl rfl rfl (by decide +kernel)) (pi_tup (pe_ix ix_tup (pv 0) pe_int (fun _ _ => rfl))) (blkOk_by (own := [("row", 4)]) (N := ["value", "n", "part", "sizes", "row"]) (sc := defScope sTS) (by decide +kernel)) (fun _ _ _ _ _ => pg_no) (fun _ _ _ _ _ => pts_nil) (fun _ _ _ _ _ => pe_no))
    (pss_one (ps_ret (pe_callB (cr_sum rfl) (by rfl) (B _ (by decide)) (by decide +kernel) (pa_cons (pv 3) pa_nil)))))), ?_⟩
  obtain ⟨n, rfl, k⟩ := h
  refine ⟨_, rfl, eE, _, _, _, rfl, rfl, Em.s _, rfl, rfl, _, rfl, iteF ?_⟩
  refine ⟨_, rfl, eE, _, _, _, rfl, rfl, Em.s _, rfl, rfl, _, rfl, iteF ?_⟩
  refine ⟨_, rfl, eE, _, _, _, rfl, rfl, Em.s _, rfl, e2, rfl, ⟨_, Em.s2 _⟩, fun D hD => ?_⟩
  refine for_noneC walkT0 (Em.s2 _) ?_
  exact ⟨_, rfl, D, [], rfl, SqL.of upd_same, k _ (same_new hD)⟩
theorem okSh (F : L2.Fun K "shown" "shown" sSh f fd) (B : Bt mg) (Em : Emp K mg eE e1 e2) : FnOk P w K mg base CX0 1 f fd ["value", "n"] (spSh K eE) := by
  refine F.ok scSh (fun vs H Q E h => by obtain ⟨a, rfl, _⟩ := h; rfl) (fun cdv A outer s H vs Q E hr h => ?_)
  refine ⟨_, pss_cons (ps_if (pt_cmpR op_eq (pe_ix ix_tup (pv 0) pe_int (fun _ _ => rfl)) pe_str (nomark _)) pss_never pss_nil)
    (pss_cons (ps_if (pt_cmpR op_ne (pe_ix ix_tup (pv 0) pe_int (fun _ _ => rfl)) pe_str (nomark _)) pss_never pss_nil)
    (pss_cons (ps_set (i := 3) scSh.nd rfl (.inr rfl) pe_dnewK)
    (pss_cons (ps_for PassesOwn.never rfl (pi_tup (pe_ix ix_tup (pv 0) pe_int (fun _ _ => rfl))) (g := fun _ _ _ _ => False) pg_no pss_never)
    (pss_one (ps_ret (pe_tup (pa_cons pe_str (pa_cons (pe_callTy call_tuple_of (by rfl) (B _ (by decide)) (by decide +kernel) (pa_cons
      (pe_lc (own := [("word", 10)]) (g := fun _ _ _ _ => False) (tt := tYes) rfl scSh.nd (pi_list (pe_callB cr_sortedS (by rfl) (B _ (by decide)) (by decide +kernel) (pa_cons
        (pe_lc (own := [("key", 9)]) (g := fun _ _ _ _ => False) (tt := tYes) rfl scSh.nd (pi_list (pe_callTy (call_list_dK rfl) (by rfl) (B _ (by decide)) (by decide +kernel) (pa_cons (pv 3) pa_nil))) (blkOk_by (own := [("key", 9)]) (N := ["value", "n", "part", "table", "labels", "term", "numbers", "one", "images", "key", "word"]) (sc := defScope sSh) (by decide +kernel)) (fun _ _ _ _ _ => pg_no) (fun _ _ _ _ _ => pts_nil) (fun _ _ _ _ _ => pe_no)) pa_nil)))
        (blkOk_by (own := [("word", 10)]) (N := ["value", "n", "part", "table", "labels", "term", "numbers", "one", "images", "key", "word"]) (sc := defScope sSh) (by decide +kernel)) (fun _ _ _ _ _ => pg_no) (fun _ _ _ _ _ => pts_nil) (fun _ _ _ _ _ => pe_no)) pa_nil)) pa_nil)))))))), ?_⟩
  obtain ⟨n, rfl, k⟩ := h
  refine ⟨_, rfl, eE, _, _, _, rfl, rfl, Em.s _, rfl, rfl, _, rfl, iteF ?_⟩
  refine ⟨_, rfl, eE, _, _, _, rfl, rfl, Em.s _, rfl, rfl, _, rfl, iteF ?_⟩
  intro d hd
  refine ⟨_, rfl, eE, _, _, _, rfl, rfl, Em.s _, rfl, e2, rfl, ⟨_, Em.s2 _⟩, ?_⟩
  refine for_noneS walkT0 (Em.s2 _) ?_
  refine ⟨_, rfl, d, [], rfl, upd_same, fun l hl => ?_⟩
  refine ⟨l, rfl, ⟨_, SqL.of upd_same⟩, fun D hD => ?_⟩
  refine for_noneC walkL0 (SqL.of ?_) ?_
  · exact same_new hD _ _ upd_same
  refine ⟨D, [], rfl, SqL.of upd_same, by decide, fun ys p pm so hp => ?_⟩
  obtain rfl : ys = [] := List.perm_nil.mp pm
  refine ⟨p, rfl, ⟨_, SqL.of upd_same⟩, fun D2 hD2 => ?_⟩
  refine for_noneC walkL0 (SqL.of ?_) ?_
  · exact same_new hD2 _ _ upd_same
  refine ⟨D2, [], rfl, .inl ⟨SqL.of upd_same, fun q hq => ?_⟩⟩
  refine ⟨by show 2 ≤ sizeLine; decide, fun p3 h3 => ?_⟩
  refine k _ p3 q ?_ (.inl (.inl upd_same)) (.inl (.inl (look_push upd_same h3)))
  (repeat (first | assumption | exact Same.refl _ | refine same_push ?_ (by assumption)))
theorem okSW (F : L2.Fun K "shown_within" "shown_within" sSW f fd) (cT : Cal P w K mg base CX0 1 "tree_size" (spCA eE)) (cS : Cal P w K mg base CX0 1 "shown" (spSh K eE)) : FnOk P w K mg base CX0 2 f fd ["value", "n", "most"] (spSW K eE) := by
  refine F.ok scSW (fun vs H Q E h => by obtain ⟨n, m, hm, rfl, _⟩ := h; rfl) (fun cdv A outer s H vs Q E hr h => ?_)
  refine ⟨_, pss_cons (ps_set (i := 3) scSW.nd rfl (.inl rfl) (pe_c cT hr (by rfl) pass0 (pa_cons (pv 0) (pa_cons (pv 1) pa_nil))))
    (pss_cons (ps_if (pt_cmpR op_gt (pv 3) (pv 2) (nomark _)) pss_never pss_nil) (pss_one (ps_ret (pe_c cS hr (by rfl) pass0 (pa_cons (pv 0) (pa_cons (pv 1) pa_nil)))))), ?_⟩
  obtain ⟨n, m, hm, rfl, k⟩ := h
  refine ⟨_, rfl, _, rfl, n, rfl, fun H1 s1 => ?_⟩
  refine ⟨_, rfl, _, rfl, _, _, rfl, rfl, _, rfl, iteF' (decide_eq_false (by omega)) ?_⟩
  exact ⟨_, rfl, _, rfl, n, rfl, fun H' p q s2 h1 h2 => k H' p q (s1.trans s2) h1 h2⟩
theorem okVA (F : L2.Fun K "value_at" "value_at" sVA f fd) (B : Bt mg) (T : Cf K CF ["rows"]) : FnOk P w K mg base CX0 1 f fd ["family", "n"] (spVA K CF eE) := by
  refine F.ok scVA (fun vs H Q E h => by obtain ⟨a, ks, n, rfl, _⟩ := h; rfl) (fun cdv A outer s H vs Q E hr h => ?_)
  refine ⟨_, pss_cons (ps_if (PW.pt (pw_or (pt_not (pt_val (pe_callB call_isi (by rfl) (B _ (by decide)) (by decide +kernel) (pa_cons (pv 1) (pa_cons (pe_bltn (v := .ty "int") (by rfl) (B _ (by decide)) (by decide +kernel) rfl) pa_nil)))))
      (pw_or (pt_val (pe_callB call_isi (by rfl) (B _ (by decide)) (by decide +kernel) (pa_cons (pv 1) (pa_cons (pe_bltn (v := .ty "bool") (by rfl) (B _ (by decide)) (by decide +kernel) rfl) pa_nil))))
      (pw_or1 (pt_cmpR op_lt (pv 1) pe_int (nomark _)))))) pss_never pss_nil)
    (pss_one (ps_ret (pe_ix ix_list (pe_lc (own := [("low", 2), ("high", 3), ("value", 4)]) rfl scVA.nd (pi_list (pe_fld (pv 0) rfl)) (blkOk_by (own := [("low", 2), ("high", 3), ("value", 4)]) (N := ["family", "n", "low", "high", "value"]) (sc := defScope sVA) (by decide +kernel))
      (fun _ _ _ _ _ => pg_tupK (K := K) (n := 3) rfl (by rfl) (pgs_cons (pg_name (i := 2) scVA.nd rfl (.inl rfl)) (pgs_cons (pg_name (i := 3) scVA.nd rfl (.inl rfl)) (pgs_cons (pg_name (i := 4) scVA.nd rfl (.inl rfl)) pgs_nil))))
      (fun _ _ _ _ _ => pts_one (pt_cmpR op_le (pv 2) (pv 1) (nomark _))) (fun _ _ _ _ _ => pv 4)) (pe_un un_neg pe_int) (fun _ _ => rfl)))), ?_⟩
  obtain ⟨a, ks, n, rfl, hn, ⟨dx, kn, rl, r, h0, h1, h2, h3⟩, k⟩ := h
  refine ⟨_, rfl, _, _, _, _, _, rfl, .ty _, .base (.int n), rfl, _, rfl, iteF ?_⟩
  refine ⟨_, rfl, _, _, _, _, _, rfl, .ty _, .base (.int n), rfl, _, rfl, iteF ?_⟩
  refine ⟨_, rfl, _, _, rfl, rfl, _, rfl, iteF' (decide_eq_false (by omega)) ?_⟩
  refine ⟨_, rfl, a, CF, dx, _, _, rfl, h0, T.c, T.n _ (by decide), rfl, rl, rfl, ⟨_, SqL.of h2⟩, fun D hD => ?_⟩
  have s1 := same_new (o := .lst []) hD
  refine lc_list (xs := [.ref r]) (fun i H' => Same H H' ∧ ((i = 0 ∧ H' D = some (.lst [])) ∨ (i = 1 ∧ H' D = some (.lst [.ref eE])))) ⟨s1, .inl ⟨rfl, upd_same⟩⟩ (fun i H' _ h => SqL.of (h.1 _ _ h2)) (fun i x H' hx h => ?_) (fun H' h => ?_)
  · obtain ⟨s2, ⟨rfl, h⟩ | ⟨rfl, h⟩⟩ := h
    · obtain rfl : V.ref r = x := Option.some.inj hx
      refine ⟨r, _, rfl, same_tup s2 h3, rfl, _, _, rfl, _, _, rfl, _, _, rfl, rfl, rfl, ?_⟩
      refine ⟨_, rfl, _, rfl, _, _, rfl, rfl, _, rfl, ?_⟩
      refine iteT' (decide_eq_true hn) ?_
      exact ⟨_, rfl, [], h, by decide, same_upd hD s2, .inr ⟨rfl, upd_same⟩⟩
    · cases hx
  · obtain ⟨s2, h | h⟩ := h
    · exact absurd h.1 (by show ¬ (1 = 0); decide)
    · exact ⟨_, rfl, D, _, _, _, rfl, rfl, SqL.of h.2, rfl, k _ s2⟩
end
end FH
end
section
set_option Elab.async false
set_option linter.all false
set_option maxRecDepth 100000
set_option maxHeartbeats 4000000
namespace FI
open PySem PySem.Spec PyProof.Rows L2 FK FA FB FC FD FF FH
theorem len_app (a b : PySem.Str) : (a ++ b).length = a.length + b.length := by
  show (a.cps ++ b.cps).size = _
  rw [Array.size_append]
  rfl
theorem join_len (y : PySem.Str) {B : Nat} (hy : y.length ≤ B) : ∀ zs : List PySem.Str, (∀ z ∈ zs, z.length ≤ B) → (PySem.Txt.join y zs).length ≤ zs.length * (2 * B)
  | [], _ => by
    rw [TL.join_eq]
    exact Nat.zero_le _
  | [z], h => by
    rw [TL.join_eq]
    show z.length ≤ _
    have := h z (by simp)
    simp only [List.length_cons, List.length_nil]
    omega
  | x :: z :: r, h => by
    have ih := join_len y hy (z :: r) fun q hq => h q (List.mem_cons_of_mem _ hq)
    rw [TL.join_eq] at ih ⊢
    show (x ++ y ++ Str.join y (z :: r)).length ≤ _
    rw [len_app, len_app]
    have := h x (by simp)
    simp only [List.length_cons] at ih ⊢
    rw [Nat.succ_mul (r.length + 1)]
    omega
theorem sum_len {B : Nat} : ∀ zs : List PySem.Str, (∀ z ∈ zs, z.length ≤ B) → (zs.map (·.length)).sum ≤ zs.length * B
  | [], _ => Nat.zero_le _
  | x :: r, h => by
    have ih := sum_len r fun q hq => h q (List.mem_cons_of_mem _ hq)
    have := h x (by simp)
    simp only [List.map_cons, List.sum_cons, List.length_cons]
    rw [Nat.succ_mul]
    omega
theorem join_room {y : PySem.Str} (hy : y.length ≤ 30) {zs : List PySem.Str} (f1 : zs.length ≤ 20) (f2 : ∀ z ∈ zs, z.length ≤ 30) : (zs.map (·.length)).sum + zs.length * y.length ≤ 16777216 := by
  have hs := sum_len zs f2
  have := Nat.mul_le_mul f1 hy
  omega
theorem join_room1 {y : PySem.Str} (hy : y.length ≤ 30) {z : PySem.Str} (f : z.length ≤ 2000) : (([z] : List PySem.Str).map (·.length)).sum + ([z] : List PySem.Str).length * y.length ≤ 16777216 := by
  simp only [List.map_cons, List.map_nil, List.sum_cons, List.sum_nil, List.length_cons, List.length_nil]
  omega
theorem join1 (y z : PySem.Str) : PySem.Txt.join y [z] = z := by
  rw [TL.join_eq]
  rfl
def pageT (zs : List PySem.Str) : PySem.Str := if zs = [] then "known" else ("known " : PySem.Str) ++ PySem.Txt.join ", " zs
def Few (zs : List PySem.Str) : Prop := zs.length ≤ 20 ∧ ∀ z ∈ zs, z.length ≤ 30
theorem pageT_len {zs : List PySem.Str} (f : Few zs) : (pageT zs).length ≤ 2000 := by
  unfold pageT
  split
  · decide
  · rw [len_app]
    have h := join_len (", " : PySem.Str) (B := 30) (by decide) zs f.2
    have : ("known " : PySem.Str).length = 6 := rfl
    have := f.1
    omega
def spPT (K : PySem.W.Frag) : Sp := fun vs H Q _ => ∃ a b zs, vs = [.ref a, .ref b] ∧ SqT K H a (zs.map V.str) ∧ Few zs ∧ SqT K H b [] ∧ ∀ H', Same H H' → Q (.str (pageT zs)) H'
noncomputable abbrev sPT : Stmt := HK.stA TW 91
theorem scPT : FnScope ["known", "statements", "first"] ["known", "statements"] (defScope sPT) := ⟨rfl, rfl, rfl, by decide +kernel, rfl, by decide +kernel, by decide +kernel⟩
noncomputable abbrev sPg : Stmt := HK.stA TW 232
theorem scPg : FnScope ["known", "steps", "lines", "step"] ["known", "steps"] (defScope sPg) := ⟨rfl, rfl, rfl, by decide +kernel, rfl, by decide +kernel, by decide +kernel⟩
section
variable {P : Program} {w : World} {K : PySem.W.Frag} {mg : PySem.Str → Option Value} {base : Heap} {f : Addr} {fd : FuncData}
theorem okPT (F : L2.Fun K "program_text" "program_text" sPT f fd) (c : Cal P w K mg base CX0 1 "statement_lines" (spSln K)) : FnOk P w K mg base CX0 2 f fd ["known", "statements"] (spPT K) := by
  refine F.ok scPT (fun vs H Q E h => by obtain ⟨a, b, zs, rfl, _⟩ := h; rfl) (fun cdv A outer s H vs Q E hr h => ?_)
  refine ⟨_, pss_cons (ps_set (i := 2) scPT.nd rfl (.inl rfl) (pe_ifExp (pt_truth (pv 0) (by intro _; rfl)) (pe_op op_add_str pe_str (pe_join pe_str (pv 0))) pe_str))
    (pss_one (ps_ret (pe_join pe_str (pe_op op_cat (pe_lst (pa_cons (pv 2) pa_nil)) (pe_c c hr (by rfl) pass0 (pa_cons (pv 1) (pa_cons pe_str pa_nil))))))), ?_⟩
  obtain ⟨a, b, zs, rfl, ha, fw, hb, k⟩ := h
  have tail : ∀ σ : L2.St, σ = [some (.ref a), some (.ref b), some (.str (pageT zs))] → (tRet (tM1 (fun x xs H Q => ∃ a p, ∃ ys : List Str, x = .str a ∧ xs = [.ref p] ∧ (SqL K H p (ys.map V.str) ∨ SqT K H p (ys.map V.str)) ∧
      (ys.map (·.length)).sum + ys.length * a.length ≤ 16777216 ∧ Q (.str (Txt.join a ys)) H) (tC (.str "\n")) (tOp rCat (tLst (tCons (tVar 2) tNil)) (fun σ H Q => tCons (tVar 1) (tCons (tC (.str "")) tNil) σ H fun vs H1 => spSln K vs H1 Q E0))) : TS) { nx := fun _ H' => Q .non H', rt := Q } σ H := by
    rintro σ rfl
    refine ⟨⟨_, rfl⟩, _, rfl, by show 1 ≤ sizeLine; decide, fun l hl => ?_⟩
    have s1 := same_new (o := .lst [.str (pageT zs)]) hl
    refine ⟨_, rfl, b, _, rfl, same_tup s1 hb, fun H' p s2 np hp => ?_⟩
    refine ⟨l, p, [.str (pageT zs)], [], rfl, rfl, s2 _ _ upd_same, hp, by show 1 ≤ sizeLine; decide, fun q hq => ?_⟩
    refine ⟨_, q, [pageT zs], rfl, rfl, .inl (SqL.of upd_same), ?_, ?_⟩
    · exact join_room1 (by decide) (pageT_len fw)
    · show Q (.str (PySem.Txt.join ("\n" : PySem.Str) [pageT zs])) _
      rw [join1]
      exact k _ ((s1.trans s2).trans (same_new hq))
  cases zs with
  | nil =>
    refine ⟨_, rfl, false, .inr (.inl ⟨_, ha, rfl⟩), iteF ?_⟩
    exact tail _ rfl
  | cons z zs =>
    refine ⟨_, rfl, true, .inr (.inl ⟨_, ha, rfl⟩), iteT ?_⟩
    have hl := join_len (", " : PySem.Str) (B := 30) (by decide) (z :: zs) fw.2
    have hs := sum_len (B := 30) (z :: zs) fw.2
    have h20 := fw.1
    refine ⟨⟨_, rfl⟩, _, rfl, _, a, z :: zs, rfl, rfl, .inr ha, ?_, ?_⟩
    · exact join_room (y := ", ") (by decide) fw.1 fw.2
    · refine ⟨_, _, rfl, rfl, ?_, ?_⟩
      · rw [sizeLine_eq]
        show 6 + (PySem.Txt.join (", " : PySem.Str) (z :: zs)).length ≤ _
        omega
      · exact tail _ rfl
theorem okPg (F : L2.Fun K "page_text" "page_text" sPg f fd) (c : Cal P w K mg base CX0 2 "program_text" (spPT K)) : FnOk P w K mg base CX0 3 f fd ["known", "steps"] (spPT K) := by
  refine F.ok scPg (fun vs H Q E h => by obtain ⟨a, b, zs, rfl, _⟩ := h; rfl) (fun cdv A outer s H vs Q E hr h => ?_)
  refine ⟨_, pss_cons (ps_set (i := 2) scPg.nd rfl (.inl rfl) (pe_lst (pa_cons (pe_c c hr (by rfl) pass0 (pa_cons (pv 0) (pa_cons (pe_tup pa_nil) pa_nil))) pa_nil)))
    (pss_cons (ps_for PassesOwn.never rfl (pi_tup (pv 1)) (pg_name (i := 3) scPg.nd rfl (.inl rfl)) pss_never)
    (pss_one (ps_ret (pe_join pe_str (pv 2))))), ?_⟩
  obtain ⟨a, b, zs, rfl, ha, fw, hb, k⟩ := h
  refine ⟨_, rfl, by show 0 ≤ sizeLine; decide, fun p hp => ?_⟩
  have s1 := same_new (o := .tup []) hp
  refine ⟨a, p, zs, rfl, same_tup s1 ha, fw, .inl (.inl upd_same), fun H1 s2 => ?_⟩
  refine ⟨by show 1 ≤ sizeLine; decide, fun l hl => ?_⟩
  have s3 := (s1.trans s2).trans (same_new (o := .lst [.str (pageT zs)]) hl)
  refine ⟨_, rfl, b, rfl, ⟨_, same_tup s3 hb⟩, ?_⟩
  refine for_noneS walkT0 (same_tup s3 hb) ?_
  refine ⟨⟨_, rfl⟩, _, rfl, _, l, [pageT zs], rfl, rfl, .inl (SqL.of upd_same), ?_, ?_⟩
  · exact join_room1 (by decide) (pageT_len fw)
  · show Q (.str (PySem.Txt.join ("\n" : PySem.Str) [pageT zs])) _
    rw [join1]
    exact k _ s3
end
end FI
end
section
set_option Elab.async false
set_option linter.all false
set_option maxRecDepth 100000
set_option maxHeartbeats 4000000
namespace FJ
open PySem PySem.Spec PyProof.Rows L2 FK FA FB FC FD FF FH FI
theorem fm_take (xs : List PySem.Str) : ∀ i, i ≤ xs.length → (∀ v, v ∈ SK.fm xs i ↔ v ∈ xs.take i) ∧ ((SK.fm xs i).length = i ↔ (xs.take i).Nodup)
  | 0, _ => ⟨fun v => by simp [SK.fm], by simp [SK.fm]⟩
  | i + 1, h => by
    obtain ⟨m, l⟩ := fm_take xs i (by omega)
    have lt : i < xs.length := h
    have e : xs.take (i + 1) = xs.take i ++ [xs[i]] := List.take_succ_eq_append_getElem lt
    have eg : xs.getD i Str.empty = xs[i] := by rw [List.getD_eq_getElem?_getD, List.getElem?_eq_getElem lt]; rfl
    have le := SK.fm_le xs i
    show (∀ v, v ∈ SK.step (SK.fm xs i) (xs.getD i Str.empty) ↔ _) ∧ ((SK.step (SK.fm xs i) (xs.getD i Str.empty)).length = _ ↔ _)
    rw [eg, e]
    unfold SK.step
    by_cases hin : xs[i] ∈ SK.fm xs i
    · have ha : (SK.fm xs i).any (· == xs[i]) = true := List.any_eq_true.mpr ⟨_, hin, by simp⟩
      rw [if_pos ha]
      refine ⟨fun v => ?_, ?_⟩
      · rw [List.mem_append, List.mem_singleton, m v]
        constructor
        · exact .inl
        · rintro (h | rfl)
          · exact h
          · exact (m _).mp hin
      · constructor
        · intro z
          omega
        · intro nd
          exfalso
          rw [List.nodup_append] at nd
          exact nd.2.2 _ ((m _).mp hin) _ (List.mem_singleton.mpr rfl) rfl
    · have ha : (SK.fm xs i).any (· == xs[i]) = false := by
        rw [List.any_eq_false]
        intro v hv hh
        have : v = xs[i] := by simpa using hh
        exact hin (this ▸ hv)
      rw [if_neg (by rw [ha]; decide)]
      refine ⟨fun v => ?_, ?_⟩
      · rw [List.mem_append, List.mem_append, m v]
      · rw [List.length_append, List.length_singleton]
        constructor
        · intro z
          have nd := l.mp (by omega)
          rw [List.nodup_append]
          refine ⟨nd, by simp, fun a ha b hb => ?_⟩
          rw [List.mem_singleton.mp hb]
          intro ab
          rw [ab] at ha
          exact hin ((m _).mpr ha)
        · intro nd
          rw [List.nodup_append] at nd
          have := l.mpr nd.1
          omega
theorem fm_nd (xs : List PySem.Str) : (SK.fm xs xs.length).length = xs.length ↔ xs.Nodup := by
  have h := (fm_take xs xs.length (Nat.le_refl _)).2
  rwa [List.take_length] at h
def SameB (p : Addr) (H H' : Hp) : Prop := ∀ b o, b ≠ p → H b = some o → H' b = some o
theorem SameB.of {p : Addr} {H H' : Hp} (h : Same H H') : SameB p H H' := fun b o _ e => h b o e
theorem SameB.trans {p : Addr} {H H' H'' : Hp} (h : SameB p H H') (g : SameB p H' H'') : SameB p H H'' := fun b o n e => g b o n (h b o n e)
theorem SameB.thn {p : Addr} {H H' H'' : Hp} (h : SameB p H H') (g : Same H' H'') : SameB p H H'' := fun b o n e => g b o (h b o n e)
theorem SameB.up {p : Addr} {H H' : Hp} {o : HO} (h : SameB p H H') : SameB p H (upd H' p o) := fun b u n e => by
  rw [upd_ne n]
  exact h b u n e
theorem sqB {K : PySem.W.Frag} {p : Addr} {H H' : Hp} {a : Addr} {xs : List V} {o : HO} (s : SameB p H H') (hp : H p = some o) (no : ∀ ys, o ≠ .tup ys ∧ ∀ q, o ≠ .frz q (.tup ys)) (h : SqT K H a xs) : SqT K H' a xs := by
  rcases h with (h | ⟨q, h⟩) | h
  · have n : a ≠ p := fun e => (no xs).1 (Option.some.inj (hp.symm.trans (e ▸ h)))
    exact .inl (.inl (s _ _ n h))
  · have n : a ≠ p := fun e => (no xs).2 q (Option.some.inj (hp.symm.trans (e ▸ h)))
    exact .inl (.inr ⟨q, s _ _ n h⟩)
  · exact .inr h
theorem sq_ty {K : PySem.W.Frag} {H : Hp} {a : Addr} {xs : List V} (h : SqT K H a xs) : TyX K H (.ref a) (.type "tuple") := by
  rcases h with (h | ⟨o, h⟩) | ⟨o, its, n, l, c, _⟩
  · exact .base (.tup h)
  · exact .fTuple h
  · exact .kTuple l c
inductive Kn (K : PySem.W.Frag) (H : Hp) : V → Option (List V) → Prop
  | good {a : Addr} {xs : List V} (h : SqT K H a xs) (fl : ∀ x ∈ xs, Flat x) (n : xs.length ≤ 100) (g : xs.all nameV = true) (nd : xs.Nodup) : Kn K H (.ref a) (some xs)
  | bad {a : Addr} {xs : List V} (h : SqT K H a xs) (fl : ∀ x ∈ xs, Flat x) (n : xs.length ≤ 100) (g : xs.all nameV = true → ¬ xs.Nodup) : Kn K H (.ref a) none
  | lst {a : Addr} {xs : List V} (h : H a = some (.lst xs)) : Kn K H (.ref a) none
  | txt (z : PySem.Str) : Kn K H (.str z) none
theorem texts_of {xs : List V} (fl : ∀ x ∈ xs, Flat x) (g : xs.all nameV = true) : ∃ zs : List PySem.Str, xs = zs.map V.str ∧ ∀ z ∈ zs, z.length ≤ 12 := by
  induction xs with
  | nil => exact ⟨[], rfl, by simp⟩
  | cons x r ih =>
    rw [List.all_cons, Bool.and_eq_true] at g
    obtain ⟨zs, rfl, hz⟩ := ih (fun y hy => fl y (List.mem_cons_of_mem _ hy)) g.2
    have n := g.1
    cases fl x (by simp) with
    | int i => cases n
    | non => cases n
    | str z h =>
      refine ⟨z :: zs, rfl, fun y hy => ?_⟩
      rcases List.mem_cons.mp hy with rfl | hy
      · have w : wordB y = true := by
          have q : (wordV (.str y) && !inV (.str y) resV) = true := n
          rw [Bool.and_eq_true] at q
          exact q.1
        unfold wordB at w
        rw [Bool.and_eq_true, Bool.and_eq_true] at w
        exact of_decide_eq_true w.1.2
      · exact hz y hy
theorem nodup_str {zs : List PySem.Str} : (zs.map V.str).Nodup ↔ zs.Nodup := by
  constructor
  · exact fun h => List.Pairwise.of_map V.str (fun a b n e => n (congrArg V.str e)) h
  · intro h
    exact List.Pairwise.map _ (fun a b n e => n (V.str.inj e)) h
theorem passE {X : Cx} {E : XK} (tk : Takes X (fun cls d _ H => E cls d H)) : Passes (L2.CX X.prog X.w) X E := fun pins σ H s e s' I c => passAt tk σ pins H s e s' I c
def tCl (sp : Sp) (E : XK) (t : TA) : TE := fun σ H Q => t σ H fun vs H1 => sp vs H1 Q E
theorem pe_cT {X : Cx} {CX : CXT} {k : Nat} {sp : Sp} {E : XK} {x : PySem.Str} {p pos : Pos} {e : Expr} {es : List Expr} {t : TA} (c : Cal X.prog X.w X.K X.mg X.base CX k x sp) (hr : Room k X.A) (hg : Gl X x) (hx : Passes CX X E) (ha : PA X (e :: es) t) (hdb : (x == ("__debug__" : PySem.Str)) = false := by decide)
    (he : starEach (e :: es) X.env = (false, eval e X.env) :: starEach es X.env := by rfl) (hpl : (backTo pos (starEach es X.env)).any (·.1) = false := by rfl) : PE X (.Call (.Name x p) (e :: es) [] pos) (tCl sp E t) := pe_c c hr hg hx ha hdb he hpl
def spPI (K : PySem.W.Frag) (CP CB : Addr) : Sp := fun vs H Q E => ∃ p dx kv st r, vs = [.ref p, kv, .ref st] ∧ H p = some (.ins CP dx []) ∧ SqT K H st [] ∧ Kn K H kv r ∧
  (r = none → ∀ H' d q, Same H H' → H d = none → H' d = some (.xd [("place", .ref q)]) → SqT K H' q [] → E (.ref CB) (some d) H') ∧
  (∀ xs, r = some xs → ∀ H', SameB p H H' → Q .non H')
noncomputable abbrev sPI : Stmt := HK.kidA (HK.stA TW 93) 0
theorem scPI : FnScope ["self", "known", "statements", "word", "place"] ["self", "known", "statements"] (defScope sPI) := ⟨rfl, rfl, rfl, by decide +kernel, rfl, by decide +kernel, by decide +kernel⟩
section
variable {P : Program} {w : World} {K : PySem.W.Frag} {mg : PySem.Str → Option Value} {base : Heap} {f CP CB fB : Addr} {fd : FuncData} {dvs wdv : List V}
theorem okPI (F : L2.FunD K "__init__" "Program.__init__" (defArgs sPI) (defBody sPI) (defScope sPI) dvs [] f fd) (B : Bt mg) (T : Cf K CP ["known", "statements", "variables"]) (SB : PySem.EXS.SupTxt P K mg "BadProgram" "place" CB fB)
    (cN : Cal P w K mg base CX0 2 "is_name" spName) (hw : wdv.length = 2) (cW : Cal P w K mg base CX0 1 "wrong_place" (fun vs H Q E => spWrong K (vs ++ wdv) H Q E)) (cV : Cal P w K mg base CX0 1 "state_variables" (spStv K)) :
    FnOk P w K mg base (L2.CX P w) 3 f fd ["self", "known", "statements"] (spPI K CP CB) := by
  refine F.ok scPI (fun vs H Q E h => by obtain ⟨p, dx, kv, st, r, rfl, _⟩ := h; rfl) (fun cdv A outer s H vs Q E hr h => ?_)
  refine ⟨_, pss_cons (ps_if (PW.pt (pw_or (pt_not (pt_val (pe_callB call_isi (by rfl) (B _ (by decide)) (by decide +kernel) (pa_cons (pv 1) (pa_cons (pe_bltn (v := .ty "tuple") (by rfl) (B _ (by decide)) (by decide +kernel) rfl) pa_nil)))))
      (pw_or (pt_not (pt_val (pe_callB (cr_all rfl) (by rfl) (B _ (by decide)) (by decide +kernel) (pa_cons
        (pe_lc (own := [("word", 3)]) (g := gName 3) (tt := tYes) rfl scPI.nd (pi_tup (pv 1)) (blkOk_by (own := [("word", 3)]) (N := ["self", "known", "statements", "word", "place"]) (sc := defScope sPI) (by decide +kernel)) (fun _ _ _ _ _ => pg_name (i := 3) scPI.nd rfl (Or.inl rfl)) (fun _ _ _ _ _ => pts_nil)
          (fun _ _ _ _ _ => pe_cT cN hr (by rfl) pass0 (pa_cons (pv 3) pa_nil))) pa_nil))))
      (pw_or1 (pt_cmpR op_ne (SK.pe_lenSetN rfl (by rfl) (B _ (by decide)) (by rfl) (B _ (by decide)) (pv 1)) (pe_callB call_len_seq (by rfl) (B _ (by decide)) (by decide +kernel) (pa_cons (pv 1) pa_nil)) (nomark _))))))
      (pss_one (EXS.ps_raise1 rfl SB hr (takes_of rfl rfl rfl rfl) (pa_cons (pe_tup pa_nil) pa_nil))) pss_nil)
    (PSs.nox (pss_cons (ps_if (pt_not (pt_val (pe_callB call_isi (by rfl) (B _ (by decide)) (by decide +kernel) (pa_cons (pv 2) (pa_cons (pe_bltn (v := .ty "tuple") (by rfl) (B _ (by decide)) (by decide +kernel) rfl) pa_nil))))) pss_never pss_nil)
    (pss_cons (ps_set (i := 4) scPI.nd rfl (.inl rfl) (pe_c cW (hr.mono (by decide)) (by rfl) pass0 (pa_cons (pv 2) (pa_cons (pv 1) pa_nil))))
    (pss_cons (ps_if (pt_cmpR op_notN (pv 4) pe_non (nomark _)) pss_never pss_nil)
    (pss_cons (ps_fld (pv 0) (pv 1) rfl) (pss_cons (ps_fld (pv 0) (pv 2) rfl)
    (pss_one (ps_fld (pv 0) (pe_callTy call_tuple_of (by rfl) (B _ (by decide)) (by decide +kernel) (pa_cons (pe_callB cr_sortedS (by rfl) (B _ (by decide)) (by decide +kernel) (pa_cons
        (pe_lc (own := [("word", 3)]) (g := fun _ _ _ _ => False) (tt := tYes) rfl scPI.nd (pi_list (pe_c cV (hr.mono (by decide)) (by rfl) pass0 (pa_cons (pv 2) pa_nil))) (blkOk_by (own := [("word", 3)]) (N := ["self", "known", "statements", "word", "place"]) (sc := defScope sPI) (by decide +kernel)) (fun _ _ _ _ _ => pg_no) (fun _ _ _ _ _ => pts_nil) (fun _ _ _ _ _ => pe_no)) pa_nil)) pa_nil)) rfl)))))))), ?_⟩
  obtain ⟨p, dx, kv, st, r, rfl, hp, hst, hk, kE, kQ⟩ := h
  have rz : ∀ H1 q d, r = none → Same H H1 → H1 q = none → (upd H1 q (.tup [])) d = none → E (.ref CB) (some d) (upd (upd H1 q (.tup [])) d (.xd [("place", .ref q)])) := by
    intro H1 q d hr1 s1 hq hd
    have s2 := s1.trans (same_new (o := .tup []) hq)
    exact kE hr1 _ d q (s2.trans (same_new hd)) (s2.free hd) upd_same (.inl (.inl (look_push upd_same hd)))
  have names : ∀ {a : Addr} {xs : List V}, SqT K H a xs → (∀ x ∈ xs, Flat x) → xs.length ≤ 100 → True := fun _ _ _ => True.intro
  cases hk with
  | txt z =>
    refine ⟨_, rfl, _, _, _, _, _, rfl, .ty _, .base (.str z), rfl, _, rfl, iteT ?_⟩
    exact ⟨by show 0 ≤ sizeLine; decide, fun q hq => ⟨_, rfl, fun d hd => rz _ q d rfl (Same.refl _) hq hd⟩⟩
  | lst e =>
    refine ⟨_, rfl, _, _, _, _, _, rfl, .ty _, .base (.lst e), rfl, _, rfl, iteT ?_⟩
    exact ⟨by show 0 ≤ sizeLine; decide, fun q hq => ⟨_, rfl, fun d hd => rz _ q d rfl (Same.refl _) hq hd⟩⟩
  | @bad a xs hs fl n g =>
    refine ⟨_, rfl, _, _, _, _, _, rfl, .ty _, sq_ty hs, rfl, _, rfl, iteF ?_⟩
    refine ⟨_, rfl, a, rfl, ⟨_, hs⟩, fun D hD => ?_⟩
    refine lc_pure walk_tup (xs := xs) (fun v => .bl (nameV v)) y_at rfl (by omega) hD (fun H' s' => same_tup s' hs) (fun x hx H' s' Q' q => ?_) fun H1 s1 hl => ?_
    · exact ⟨_, rfl, x, rfl, fl x hx, fun H'' s'' => q H'' s''⟩
    · refine ⟨D, xs.map nameV, rfl, SqL.of (by rw [List.map_map]; exact hl), _, rfl, ?_⟩
      have e : (xs.map nameV).all id = xs.all nameV := by rw [List.all_map]; rfl
      rw [e]
      cases ha : xs.all nameV with
      | false => exact iteT ⟨by show 0 ≤ sizeLine; decide, fun q hq => ⟨_, rfl, fun d hd => rz _ q d rfl s1 hq hd⟩⟩
      | true =>
        obtain ⟨zs, rfl, _⟩ := texts_of fl ha
        refine iteF ?_
        have hs1 := same_tup s1 hs
        refine ⟨_, rfl, a, zs, rfl, hs1, by rw [List.length_map] at n; omega, ?_⟩
        refine ⟨_, rfl, a, _, rfl, .inr hs1, ?_⟩
        refine ⟨rfl, _, rfl, ?_⟩
        rw [List.length_map]
        have ne : ¬ zs.Nodup := fun z => g ha (nodup_str.mpr z)
        have nl : (SK.fm zs zs.length).length ≠ zs.length := fun z => ne ((fm_nd zs).mp z)
        have hd : (!decide (V.int ((SK.fm zs zs.length).length : Nat) = V.int (zs.length : Nat))) = true := by
          simp only [V.int.injEq, Bool.not_eq_true', decide_eq_false_iff_not]
          omega
        refine iteT' hd ?_
        exact ⟨by show 0 ≤ sizeLine; decide, fun q hq => ⟨_, rfl, fun d hd => rz _ q d rfl s1 hq hd⟩⟩
  | @good a xs hs fl n g nd =>
    refine ⟨_, rfl, _, _, _, _, _, rfl, .ty _, sq_ty hs, rfl, _, rfl, iteF ?_⟩
    refine ⟨_, rfl, a, rfl, ⟨_, hs⟩, fun D hD => ?_⟩
    refine lc_pure walk_tup (xs := xs) (fun v => .bl (nameV v)) y_at rfl (by omega) hD (fun H' s' => same_tup s' hs) (fun x hx H' s' Q' q => ?_) fun H1 s1 hl => ?_
    · exact ⟨_, rfl, x, rfl, fl x hx, fun H'' s'' => q H'' s''⟩
    · refine ⟨D, xs.map nameV, rfl, SqL.of (by rw [List.map_map]; exact hl), _, rfl, ?_⟩
      have e : (xs.map nameV).all id = xs.all nameV := by rw [List.all_map]; rfl
      rw [e, g]
      obtain ⟨zs, rfl, _⟩ := texts_of fl g
      refine iteF ?_
      have hs1 := same_tup s1 hs
      refine ⟨_, rfl, a, zs, rfl, hs1, by rw [List.length_map] at n; omega, ?_⟩
      refine ⟨_, rfl, a, _, rfl, .inr hs1, ?_⟩
      refine ⟨rfl, _, rfl, ?_⟩
      rw [List.length_map, (fm_nd zs).mpr (nodup_str.mp nd)]
      refine iteF' (by simp) ?_
      refine ⟨_, rfl, _, _, _, _, _, rfl, .ty _, sq_ty (same_tup s1 hst), rfl, _, rfl, iteF ?_⟩
      obtain ⟨w1, w2, rfl⟩ : ∃ w1 w2, wdv = [w1, w2] := by
        match wdv, hw with
        | [a, b], _ => exact ⟨a, b, rfl⟩
      refine ⟨_, rfl, _, rfl, st, .ref a, w1, w2, rfl, same_tup s1 hst, fun H2 s2 => ?_⟩
      refine ⟨_, rfl, rfl, _, rfl, iteF ?_⟩
      have s12 := s1.trans s2
      have hp2 := s12 _ _ hp
      refine ⟨_, rfl, _, rfl, p, CP, dx, _, rfl, hp2, T.c, T.n _ (by decide), by decide, ?_⟩
      refine ⟨_, rfl, _, rfl, p, CP, dx, _, rfl, upd_same, T.c, T.n _ (by decide), (by show 1 < 1000; decide), ?_⟩
      have b3 : SameB p H (upd (upd H2 p (.ins CP dx (putF "known" (.ref a) []))) p (.ins CP dx (putF "statements" (.ref st) (putF "known" (.ref a) [])))) := ((SameB.of s12).up).up
      refine ⟨_, rfl, st, rfl, sqB b3 hp (fun ys => ⟨(by intro z; cases z), (by intro q z; cases z)⟩) hst, fun H4 q s4 eq => ?_⟩
      refine ⟨q, rfl, ⟨_, SqL.of eq⟩, fun D2 hD2 => ?_⟩
      refine for_noneC walkL0 (SqL.of (same_new hD2 _ _ eq)) ?_
      refine ⟨D2, [], rfl, SqL.of upd_same, by decide, fun ys l pm so hl' => ?_⟩
      obtain rfl : ys = [] := List.perm_nil.mp pm
      refine ⟨l, [], rfl, .inl ⟨SqL.of upd_same, fun t ht => ?_⟩⟩
      have s5 := ((s4.trans (same_new (o := .lst []) hD2)).trans (same_new (o := .lst ([].map V.str)) hl')).trans (same_new (o := .tup []) ht)
      refine ⟨_, rfl, p, CP, dx, _, rfl, s5 _ _ upd_same, T.c, T.n _ (by decide), (by show 2 < 1000; decide), ?_⟩
      exact kQ _ rfl _ (b3.thn s5).up
end
end FJ
end
section
set_option Elab.async false
set_option linter.all false
set_option maxRecDepth 100000
set_option maxHeartbeats 4000000
namespace FL
open PySem PySem.Spec PyProof.Rows L2 FK FA FB FC FD FF FH FI FJ
def spSI (K : PySem.W.Frag) (CS : Addr) : Sp := fun vs H Q _ => ∃ p dx kn ks, vs = [.ref p, .ref kn, .int 60] ∧ H p = some (.ins CS dx []) ∧ SqT K H kn ks ∧ ∀ H', SameB p H H' → Std K CS H' p ks → Q .non H'
noncomputable abbrev sSI : Stmt := HK.kidA (HK.stA TW 205) 0
theorem scSI : FnScope ["self", "known", "limit"] ["self", "known", "limit"] (defScope sSI) := ⟨rfl, rfl, rfl, by decide +kernel, rfl, by decide +kernel, by decide +kernel⟩
section
variable {P : Program} {w : World} {K : PySem.W.Frag} {mg : PySem.Str → Option Value} {base : Heap} {f CS : Addr} {fd : FuncData}
theorem okSI (F : L2.Fun K "__init__" "Standing.__init__" sSI f fd) (T : Cf K CS ["known", "limit", "pieces", "told", "rules", "guards", "steps"]) (cS : Cal P w K mg base CX0 1 "start" spStart) :
    FnOk P w K mg base CX0 2 f fd ["self", "known", "limit"] (spSI K CS) := by
  refine F.ok scSI (fun vs H Q E h => by obtain ⟨p, dx, kn, ks, rfl, _⟩ := h; rfl) (fun cdv A outer s H vs Q E hr h => ?_)
  refine ⟨_, pss_cons (ps_fld (pv 0) (pv 1) rfl) (pss_cons (ps_fld (pv 0) (pv 2) rfl) (pss_cons (ps_fld (pv 0) (pe_c cS hr (by rfl) pass0 (pa_cons (pv 1) pa_nil)) rfl)
    (pss_cons (ps_fld (pv 0) (pe_tup pa_nil) rfl) (pss_cons (ps_fld (pv 0) (pe_tup pa_nil) rfl) (pss_cons (ps_fld (pv 0) (pe_tup pa_nil) rfl) (pss_one (ps_fld (pv 0) (pe_tup pa_nil) rfl))))))), ?_⟩
  obtain ⟨p, dx, kn, ks, rfl, hp, hk, k⟩ := h
  have no : ∀ {fs : List (PySem.Str × V)} (ys : List V), HO.ins CS dx fs ≠ .tup ys ∧ ∀ q, HO.ins CS dx fs ≠ .frz q (.tup ys) := fun ys => ⟨(by intro z; cases z), (by intro q z; cases z)⟩
  refine ⟨_, rfl, _, rfl, p, CS, dx, _, rfl, hp, T.c, T.n _ (by decide), by decide, ?_⟩
  refine ⟨_, rfl, _, rfl, p, CS, dx, _, rfl, upd_same, T.c, T.n _ (by decide), (by show 1 < 1000; decide), ?_⟩
  refine ⟨_, rfl, _, rfl, fun H1 l t d s1 nl nt nd el et ed => ?_⟩
  have pl := ne_of_none upd_same nl
  have pt := ne_of_none upd_same nt
  have pd := ne_of_none upd_same nd
  have pl' := Ne.symm pl
  have pt' := Ne.symm pt
  have pd' := Ne.symm pd
  refine ⟨_, rfl, p, CS, dx, _, rfl, s1 _ _ upd_same, T.c, T.n _ (by decide), (by show 2 < 1000; decide), ?_⟩
  refine ⟨by show 0 ≤ sizeLine; decide, fun t1 n1 => ?_⟩
  have pt1 := Ne.symm (ne_of_none upd_same n1)
  refine ⟨_, rfl, p, CS, dx, _, rfl, look_push upd_same n1, T.c, T.n _ (by decide), (by show 3 < 1000; decide), ?_⟩
  refine ⟨by show 0 ≤ sizeLine; decide, fun t2 n2 => ?_⟩
  have pt2 := Ne.symm (ne_of_none upd_same n2)
  refine ⟨_, rfl, p, CS, dx, _, rfl, look_push upd_same n2, T.c, T.n _ (by decide), (by show 4 < 1000; decide), ?_⟩
  refine ⟨by show 0 ≤ sizeLine; decide, fun t3 n3 => ?_⟩
  have pt3 := Ne.symm (ne_of_none upd_same n3)
  refine ⟨_, rfl, p, CS, dx, _, rfl, look_push upd_same n3, T.c, T.n _ (by decide), (by show 5 < 1000; decide), ?_⟩
  refine ⟨by show 0 ≤ sizeLine; decide, fun t4 n4 => ?_⟩
  have pt4 := Ne.symm (ne_of_none upd_same n4)
  refine ⟨_, rfl, p, CS, dx, _, rfl, look_push upd_same n4, T.c, T.n _ (by decide), (by show 6 < 1000; decide), ?_⟩
  have key : ∀ {H'}, SameB p H H' → H' p = some (.ins CS dx [("known", .ref kn), ("limit", .int 60), ("pieces", .ref l), ("told", .ref t1), ("rules", .ref t2), ("guards", .ref t3), ("steps", .ref t4)]) → H' l = some (.lst [.ref t]) → H' t = some (.tup [.int 0, .non, .ref d]) → H' d = some (.dK []) →
      H' t1 = some (.tup []) → H' t2 = some (.tup []) → H' t3 = some (.tup []) → H' t4 = some (.tup []) → Q .non H' :=
    fun B h0 h1 h2 h3 h4 h5 h6 h7 => k _ B ⟨dx, kn, l, t, d, t1, t2, t3, t4, h0, sqB B hp no hk, h1, .inl (.inl h2), h3, .inl (.inl h4), .inl (.inl h5), .inl (.inl h6), .inl (.inl h7)⟩
  refine key ?_ upd_same ?_ ?_ ?_ ?_ ?_ ?_ ?_
  · (repeat (first | assumption | exact SameB.of (Same.refl _) | refine SameB.up ?_ | refine SameB.thn ?_ (same_new (by assumption)) | refine SameB.thn ?_ (by assumption)))
  all_goals (repeat (first | assumption | exact upd_same | refine look_push ?_ (by assumption) | refine look_ne ?_ (by assumption) | (refine (show Same _ _ by assumption) _ _ ?_)))
end
end FL
end
section
set_option Elab.async false
set_option linter.all false
set_option maxRecDepth 100000
set_option maxHeartbeats 4000000
namespace FM
open PySem PySem.Spec PyProof.Rows L2 FK FA FB FC FD FF FH FI FJ FL
theorem Kn.same {K : PySem.W.Frag} {H H' : Hp} {v : V} {r : Option (List V)} (s : Same H H') (h : Kn K H v r) : Kn K H' v r := by
  cases h with
  | good h fl n g nd => exact .good (same_tup s h) fl n g nd
  | bad h fl n g => exact .bad (same_tup s h) fl n g
  | lst h => exact .lst (s _ _ h)
  | txt z => exact .txt z
theorem same_made {H : Hp} {x dx : Addr} {o : HO} (h1 : H x = none) (h2 : H dx = none) (n : dx ≠ x) : Same H (upd (upd H dx (.own x)) x o) := (same_new h2).trans (same_new (by rw [upd_ne (Ne.symm n)]; exact h1))
theorem same_but {H H1 H2 : Hp} {x : Addr} (s : Same H H1) (hx : H x = none) (b : SameB x H1 H2) : Same H H2 := fun a o e => b a o (ne_of_none e hx) (s a o e)
theorem ins_nt {CS : Addr} {fs : List (PySem.Str × V)} {dx : Addr} (ys : List V) : HO.ins CS dx fs ≠ .tup ys ∧ ∀ q, HO.ins CS dx fs ≠ .frz q (.tup ys) := ⟨(by intro z; cases z), (by intro q z; cases z)⟩
def Wld (K : PySem.W.Frag) (CW CS : Addr) (H : Hp) (a : Addr) (ks : List V) : Prop := ∃ dx so st, H a = some (.ins CW dx [("standings", .ref so), ("floor", .int 0)]) ∧ SqT K H so [.ref st] ∧ Std K CS H st ks
theorem Wld.same {K : PySem.W.Frag} {CW CS : Addr} {H H' : Hp} {a : Addr} {ks : List V} (s : Same H H') (h : Wld K CW CS H a ks) : Wld K CW CS H' a ks := by
  obtain ⟨dx, so, st, h0, h1, h2⟩ := h
  exact ⟨dx, so, st, s _ _ h0, same_tup s h1, h2.same s⟩
def spWI (K : PySem.W.Frag) (CW CS CB : Addr) : Sp := fun vs H Q E => ∃ p dx kv r, vs = [.ref p, kv] ∧ H p = some (.ins CW dx []) ∧ Kn K H kv r ∧
  (r = none → ∀ H' d q, Same H H' → H d = none → H' d = some (.xd [("place", .ref q)]) → SqT K H' q [] → E (.ref CB) (some d) H') ∧
  (∀ xs, r = some xs → ∀ H', SameB p H H' → Wld K CW CS H' p xs → Q .non H')
noncomputable abbrev sWI : Stmt := HK.kidA (HK.stA TW 243) 0
theorem scWI : FnScope ["self", "known"] ["self", "known"] (defScope sWI) := ⟨rfl, rfl, rfl, by decide +kernel, rfl, by decide +kernel, by decide +kernel⟩
section
variable {P : Program} {w : World} {K : PySem.W.Frag} {mg : PySem.Str → Option Value} {base : Heap} {f CP CB CS CW e0 : Addr} {fd : FuncData} {dvs : List V}
theorem okWI (F : L2.FunD K "__init__" "World.__init__" (defArgs sWI) (defBody sWI) (defScope sWI) dvs [] f fd) (T : Cf K CW ["standings", "floor"]) (h0 : ∀ H, SqT K H e0 [])
    (cP : CalC P w K mg base (L2.CX P w) 3 "Program" CP (fun vs H Q E => spPI K CP CB (vs ++ [.ref e0]) H Q E)) (cS : CalC P w K mg base CX0 2 "Standing" CS (spSI K CS)) :
    FnOk P w K mg base (L2.CX P w) 5 f fd ["self", "known"] (spWI K CW CS CB) := by
  refine F.ok scWI (fun vs H Q E h => by obtain ⟨p, dx, kv, r, rfl, _⟩ := h; rfl) (fun cdv A outer s H vs Q E hr h => ?_)
  refine ⟨_, pss_cons (ps_expr (pe_mk (E := E) cP hr (by rfl) (passE (takes_of rfl rfl rfl rfl)) (pa_cons (pv 1) pa_nil)))
    (PSs.nox (pss_cons (ps_fld (pv 0) (pe_tup (pa_cons (pe_mk cS (hr.mono (by decide)) (by rfl) pass0 (pa_cons (pv 1) (pa_cons pe_int pa_nil))) pa_nil)) rfl)
    (pss_one (ps_fld (pv 0) pe_int rfl)))), ?_⟩
  obtain ⟨p, dx, kv, r, rfl, hp, hk, kE, kQ⟩ := h
  refine ⟨_, rfl, fun x dy nx ny ne => ?_⟩
  have s1 := same_made (o := .ins CP dy []) nx ny ne
  refine ⟨x, dy, kv, e0, r, rfl, upd_same, h0 _, Kn.same s1 hk, fun hr0 H' d q s2 nd ed eq => ?_, fun xs hr0 H1 b1 => ⟨rfl, ?_⟩⟩
  · exact kE hr0 H' d q (s1.trans s2) (s1.free nd) ed eq
  · subst hr0
    have s2 : Same H H1 := same_but s1 nx b1
    cases hk with
    | @good a xs hs fl n g nd =>
    refine ⟨_, rfl, ?_⟩
    intro y dz ny' nz ne'
    have s3 := same_made (o := .ins CS dz []) ny' nz ne'
    refine ⟨y, dz, a, xs, rfl, upd_same, same_tup (s2.trans s3) hs, fun H2 b2 hst => ⟨rfl, ?_⟩⟩
    have s4 : Same H1 H2 := same_but s3 ny' b2
    refine ⟨by show 1 ≤ sizeLine; decide, fun t nt => ?_⟩
    have s5 : Same H2 _ := same_new (o := .tup [.ref y]) nt
    refine ⟨_, rfl, p, CW, dx, _, rfl, (s2.trans (s4.trans s5)) _ _ hp, T.c, T.n _ (by decide), by decide, ?_⟩
    refine ⟨_, rfl, p, CW, dx, _, rfl, upd_same, T.c, T.n _ (by decide), (by show 1 < 1000; decide), ?_⟩
    have pt : t ≠ p := Ne.symm (ne_of_none ((s2.trans s4) _ _ hp) nt)
    have B : ∀ o o', SameB p H (upd (upd (upd H2 t (.tup [.ref y])) p o) p o') := fun o o' => ((SameB.of (s2.trans (s4.trans s5))).up).up
    have B2 : ∀ o o', SameB p H2 (upd (upd (upd H2 t (.tup [.ref y])) p o) p o') := fun o o' => ((SameB.of s5).up).up
    refine kQ xs rfl _ (B _ _) ⟨dx, t, y, upd_same, .inl (.inl (by (repeat (first | assumption | exact upd_same | refine look_push ?_ (by assumption) | refine look_ne ?_ (by assumption) | (refine (show Same _ _ by assumption) _ _ ?_))))), ?_⟩
    have hpp := (s2.trans s4) _ _ hp
    have yp : y ≠ p := fun z => by
      rw [z] at ny'
      have := s2 _ _ hp
      rw [ny'] at this
      cases this
    obtain ⟨ex, kn, pl, pc, d, td, ru, gu, sp, q0, q1, q2, q3, q4, q5, q6, q7, q8⟩ := hst
    refine ⟨ex, kn, pl, pc, d, td, ru, gu, sp, B2 _ _ _ _ yp q0, ?_, B2 _ _ _ _ ?_ q2, ?_, B2 _ _ _ _ ?_ q4, ?_, ?_, ?_, ?_⟩
    · exact sqB (B2 _ _) hpp ins_nt q1
    · exact fun z => by rw [z, hpp] at q2; cases q2
    · exact sqB (B2 _ _) hpp ins_nt q3
    · exact fun z => by rw [z, hpp] at q4; cases q4
    · exact sqB (B2 _ _) hpp ins_nt q5
    · exact sqB (B2 _ _) hpp ins_nt q6
    · exact sqB (B2 _ _) hpp ins_nt q7
    · exact sqB (B2 _ _) hpp ins_nt q8
end
end FM
end
section
set_option Elab.async false
set_option linter.all false
set_option maxRecDepth 100000
set_option maxHeartbeats 4000000
namespace FN
open PySem PySem.Spec PyProof.Rows L2 FK FA FB FC FD FF FH FI FJ FL FM
def okS (z : PySem.Str) : Bool := PySem.PyData.strOk z
theorem dp_strs {K : PySem.W.Frag} {H : Hp} : ∀ zs : List PySem.Str, DpAll K H (zs.map V.str) (zs.map PyData.str)
  | [] => .nil
  | z :: r => .cons (.str z) (dp_strs r)
theorem can_strs : ∀ zs : List PySem.Str, (∀ z ∈ zs, okS z = true) → PyData.canLayAll0 (zs.map PyData.str) = true
  | [], _ => by simp [PyData.canLayAll0]
  | z :: r, h => by
    rw [List.map_cons, PyData.canLayAll0, can_strs r fun y hy => h y (List.mem_cons_of_mem _ hy), PyData.canLay0, show PySem.PyData.strOk z = true from h z (by simp)]
    rfl
theorem depth_strs : ∀ zs : List PySem.Str, PyData.depthAll (zs.map PyData.str) ≤ 1
  | [] => by simp [PyData.depthAll]
  | z :: r => by
    have := depth_strs r
    rw [List.map_cons, PyData.depthAll]
    have : PyData.depth (.str z) ≤ 1 := by simp [PyData.depth]
    omega
theorem shaped_strs {zs : List PySem.Str} (h : ∀ z ∈ zs, okS z = true) : SeqAt.shaped (.tuple (zs.map PyData.str)) = true := by
  unfold SeqAt.shaped
  rw [Bool.and_eq_true]
  refine ⟨?_, decide_eq_true ?_⟩
  · rw [PyData.canLay0]
    exact can_strs zs h
  · rw [PyData.depth]
    have := depth_strs zs
    omega
theorem eqv_strs : ∀ zs ys : List PySem.Str, PyData.eqvAll (zs.map PyData.str) (ys.map PyData.str) = decide (zs = ys)
  | [], [] => by simp [PyData.eqvAll]
  | [], y :: ys => by simp [PyData.eqvAll]
  | z :: zs, [] => by simp [PyData.eqvAll]
  | z :: zs, y :: ys => by
    rw [List.map_cons, List.map_cons, PyData.eqvAll, eqv_strs zs ys, PyData.eqv]
    by_cases h : z = y
    · subst h
      simp
    · simp [h]
theorem eqv_tup (zs ys : List PySem.Str) : PyData.eqv (.tuple (zs.map PyData.str)) (.tuple (ys.map PyData.str)) = decide (zs = ys) := by
  rw [PyData.eqv]
  exact eqv_strs zs ys
theorem okS_of {z : PySem.Str} (h : nameV (.str z) = true) : okS z = true := by
  have q : (wordV (.str z) && !inV (.str z) resV) = true := h
  rw [Bool.and_eq_true] at q
  have w : wordB z = true := q.1
  unfold wordB at w
  rw [Bool.and_eq_true] at w
  unfold okS PySem.PyData.strOk
  rw [← Array.all_toList]
  rw [List.all_eq_true] at w ⊢
  intro c hc
  have := w.2 c hc
  rw [Bool.and_eq_true] at this
  have := of_decide_eq_true this.2
  exact decide_eq_true (by omega)
def spFI (K : PySem.W.Frag) (CF eE : Addr) : Sp := fun vs H Q _ => ∃ p dx m kn rl r ks, vs = [.ref p, .non, .non, .ref m] ∧ H p = some (.ins CF dx []) ∧ SqT K H m [.ref kn, .ref rl] ∧ SqT K H kn ks ∧ H rl = some (.lst [.ref r]) ∧ SqT K H r [.int 0, .non, .ref eE] ∧
  ∀ H', SameB p H H' → Fam K CF eE H' p ks → Q .non H'
noncomputable abbrev sFI : Stmt := HK.kidA (HK.stA TW 191) 0
theorem scFI : FnScope ["self", "program", "e", "made", "found", "row"] ["self", "program", "e", "made"] (defScope sFI) := ⟨rfl, rfl, rfl, by decide +kernel, rfl, by decide +kernel, by decide +kernel⟩
def spFC (K : PySem.W.Frag) (CF eE : Addr) : Sp := fun vs H Q _ => ∃ a ks, ∃ n m : Int, vs = [.ref a, .int n, .int m] ∧ 0 ≤ n ∧ 0 ≤ m ∧ Fam K CF eE H a ks ∧ ∀ H' p q, Same H H' → SqT K H' p [.str "set", .ref q] → SqT K H' q [] → Q (.ref p) H'
noncomputable abbrev sFC : Stmt := HK.kidA (HK.stA TW 191) 2
theorem scFC : FnScope ["self", "n", "most"] ["self", "n", "most"] (defScope sFC) := ⟨rfl, rfl, rfl, by decide +kernel, rfl, by decide +kernel, by decide +kernel⟩
def spFn (K : PySem.W.Frag) (CF eE : Addr) : Sp := fun vs H Q _ => ∃ a ks, ∃ n : Int, vs = [.ref a, .int n] ∧ 0 ≤ n ∧ Fam K CF eE H a ks ∧ ∀ H', Same H H' → Q (.int 0) H'
noncomputable abbrev sFn : Stmt := HK.kidA (HK.stA TW 191) 3
theorem scFn : FnScope ["self", "n"] ["self", "n"] (defScope sFn) := ⟨rfl, rfl, rfl, by decide +kernel, rfl, by decide +kernel, by decide +kernel⟩
section
variable {P : Program} {w : World} {K : PySem.W.Frag} {mg : PySem.Str → Option Value} {base : Heap} {f eE CF : Addr} {fd : FuncData} {dvs : List V}
theorem okFI (F : L2.FunD K "__init__" "Family.__init__" (defArgs sFI) (defBody sFI) (defScope sFI) dvs [] f fd) (T : Cf K CF ["known", "rows"]) : FnOk P w K mg base CX0 1 f fd ["self", "program", "e", "made"] (spFI K CF eE) := by
  refine F.ok scFI (fun vs H Q E h => by obtain ⟨p, dx, m, kn, rl, r, ks, rfl, _⟩ := h; rfl) (fun cdv A outer s H vs Q E hr h => ?_)
  refine ⟨_, (pss_cons (ps_if (pt_cmpR op_isN (pv 3) pe_non (nomark _)) pss_never pss_nil)
    (pss_one (ps_asg (pv 3) (pg_tup (by rfl) (pgs_cons (pg_attr (pv 0)) (pgs_cons (pg_attr (pv 0)) pgs_nil)))))).nox, ?_⟩
  obtain ⟨p, dx, m, kn, rl, r, ks, rfl, hp, hm, hk, hl, hr', k⟩ := h
  refine ⟨_, rfl, rfl, _, rfl, iteF ?_⟩
  refine ⟨_, rfl, m, _, rfl, hm, rfl, _, _, rfl, ?_⟩
  refine ⟨_, rfl, p, CF, dx, _, rfl, hp, T.c, T.n _ (by decide), by decide, ?_⟩
  refine ⟨_, _, rfl, ?_⟩
  refine ⟨_, rfl, p, CF, dx, _, rfl, upd_same, T.c, T.n _ (by decide), (by show 1 < 1000; decide), ?_⟩
  have key : ∀ {H'}, SameB p H H' → H' p = some (.ins CF dx [("known", .ref kn), ("rows", .ref rl)]) → Q .non H' := fun B h0 => k _ B ⟨dx, kn, rl, r, h0, sqB B hp ins_nt hk, B _ _ (fun z => by rw [z, hp] at hl; cases hl) hl, sqB B hp ins_nt hr'⟩
  exact ⟨rfl, key ((SameB.of (Same.refl _)).up.up) upd_same⟩
theorem okFC (F : L2.FunD K "__call__" "Family.__call__" (defArgs sFC) (defBody sFC) (defScope sFC) dvs [] f fd) (cS : Cal P w K mg base CX0 2 "shown_within" (spSW K eE)) (cV : Cal P w K mg base CX0 1 "value_at" (spVA K CF eE)) : FnOk P w K mg base CX0 3 f fd ["self", "n", "most"] (spFC K CF eE) := by
  refine F.ok scFC (fun vs H Q E h => by obtain ⟨a, ks, n, m, rfl, _⟩ := h; rfl) (fun cdv A outer s H vs Q E hr h => ?_)
  refine ⟨_, (pss_one (ps_ret (pe_c cS hr (by rfl) pass0 (pa_cons (pe_c cV (hr.mono (by decide)) (by rfl) pass0 (pa_cons (pv 0) (pa_cons (pv 1) pa_nil))) (pa_cons (pv 1) (pa_cons (pv 2) pa_nil)))))).nox, ?_⟩
  obtain ⟨a, ks, n, m, rfl, hn, hm, hF, k⟩ := h
  refine ⟨_, rfl, _, rfl, a, ks, n, rfl, hn, hF, fun H1 s1 => ?_⟩
  exact ⟨_, rfl, _, rfl, n, m, hm, rfl, fun H' p q s2 h1 h2 => k H' p q (s1.trans s2) h1 h2⟩
theorem okFn (F : L2.Fun K "count" "Family.count" sFn f fd) (cC : Cal P w K mg base CX0 4 "count_at" (spCA eE)) (cV : Cal P w K mg base CX0 1 "value_at" (spVA K CF eE)) : FnOk P w K mg base CX0 5 f fd ["self", "n"] (spFn K CF eE) := by
  refine F.ok scFn (fun vs H Q E h => by obtain ⟨a, ks, n, rfl, _⟩ := h; rfl) (fun cdv A outer s H vs Q E hr h => ?_)
  refine ⟨_, pss_one (ps_ret (pe_c cC hr (by rfl) pass0 (pa_cons (pe_c cV (hr.mono (by decide)) (by rfl) pass0 (pa_cons (pv 0) (pa_cons (pv 1) pa_nil))) (pa_cons (pv 1) pa_nil)))), ?_⟩
  obtain ⟨a, ks, n, rfl, hn, hF, k⟩ := h
  refine ⟨_, rfl, _, rfl, a, ks, n, rfl, hn, hF, fun H1 s1 => ?_⟩
  exact ⟨_, rfl, n, rfl, fun H' s2 => k H' (s1.trans s2)⟩
end
def spNames (K : PySem.W.Frag) (CW CS : Addr) : Sp := fun vs H Q _ => ∃ a ks, vs = [.ref a] ∧ Wld K CW CS H a ks ∧ ∀ kn, SqT K H kn ks → Q (.ref kn) H
noncomputable abbrev sNames : Stmt := HK.kidA (HK.stA TW 243) 2
theorem scNames : FnScope ["self"] ["self"] (defScope sNames) := ⟨rfl, rfl, rfl, by decide +kernel, rfl, by decide +kernel, by decide +kernel⟩
def spPage (K : PySem.W.Frag) (CW CS : Addr) : Sp := fun vs H Q _ => ∃ a zs, vs = [.ref a] ∧ Wld K CW CS H a (zs.map V.str) ∧ Few zs ∧ ∀ H', Same H H' → Q (.str (pageT zs)) H'
noncomputable abbrev sPage : Stmt := HK.kidA (HK.stA TW 243) 3
theorem scPage : FnScope ["self"] ["self"] (defScope sPage) := ⟨rfl, rfl, rfl, by decide +kernel, rfl, by decide +kernel, by decide +kernel⟩
def spAll (K : PySem.W.Frag) (CW CS : Addr) : Sp := fun vs H Q _ => ∃ a ks, vs = [.ref a] ∧ Wld K CW CS H a ks ∧ Q (.int 60) H
noncomputable abbrev sAll : Stmt := HK.kidA (HK.stA TW 243) 4
theorem scAll : FnScope ["self"] ["self"] (defScope sAll) := ⟨rfl, rfl, rfl, by decide +kernel, rfl, by decide +kernel, by decide +kernel⟩
def spVs (K : PySem.W.Frag) (CW CS : Addr) : Sp := fun vs H Q _ => ∃ a x ks, vs = [.ref a, x] ∧ Wld K CW CS H a ks ∧ ∀ H' p, Same H H' → H p = none → H' p = some (.dK []) → Q (.ref p) H'
noncomputable abbrev sVs : Stmt := HK.kidA (HK.stA TW 243) 18
theorem scVs : FnScope ["self", "n", "now", "found", "word", "name", "family"] ["self", "n"] (defScope sVs) := ⟨rfl, rfl, rfl, by decide +kernel, rfl, by decide +kernel, by decide +kernel⟩
def spLen (K : PySem.W.Frag) (CW CS : Addr) : Sp := fun vs H Q _ => ∃ a ks, vs = [.ref a] ∧ Wld K CW CS H a ks ∧ ∀ H', Same H H' → Q (.int 0) H'
noncomputable abbrev sLen : Stmt := HK.kidA (HK.stA TW 243) 19
theorem scLen : FnScope ["self"] ["self"] (defScope sLen) := ⟨rfl, rfl, rfl, by decide +kernel, rfl, by decide +kernel, by decide +kernel⟩
def spIn (K : PySem.W.Frag) (CW CS : Addr) : Sp := fun vs H Q _ => ∃ a x ks, vs = [.ref a, x] ∧ Wld K CW CS H a ks ∧ flatV x = true ∧ ∀ H', Same H H' → Q (.bl false) H'
noncomputable abbrev sIn : Stmt := HK.kidA (HK.stA TW 243) 21
theorem scIn : FnScope ["self", "name", "now", "rows", "low", "high", "answer"] ["self", "name"] (defScope sIn) := ⟨rfl, rfl, rfl, by decide +kernel, rfl, by decide +kernel, by decide +kernel⟩
section
variable {P : Program} {w : World} {K : PySem.W.Frag} {mg : PySem.Str → Option Value} {base : Heap} {f eE CF CW CS : Addr} {fd : FuncData} {dvs : List V}
theorem okNames (F : L2.Fun K "names" "World.names" sNames f fd) (T : Cf K CW ["standings", "floor"]) (S : Cf K CS ["known", "limit", "pieces", "told", "rules", "guards", "steps"]) : FnOk P w K mg base CX0 1 f fd ["self"] (spNames K CW CS) := by
  refine F.ok scNames (fun vs H Q E h => by obtain ⟨a, ks, rfl, _⟩ := h; rfl) (fun cdv A outer s H vs Q E hr h => ?_)
  refine ⟨_, pss_one (ps_ret (pe_fld (pe_ix ix_tup (pe_fld (pv 0) rfl) (pe_un un_neg pe_int) (fun _ _ => rfl)) rfl)), ?_⟩
  obtain ⟨a, ks, rfl, ⟨dx, so, st, h0, h1, ⟨ex, kn, pl, pc, d, td, ru, gu, sp, q0, q1, q2, q3, q4, q5, q6, q7, q8⟩⟩, k⟩ := h
  refine ⟨_, rfl, a, CW, dx, _, _, rfl, h0, T.c, T.n _ (by decide), rfl, 1, rfl, so, _, _, _, rfl, rfl, h1, rfl, ?_⟩
  exact ⟨st, CS, ex, _, _, rfl, q0, S.c, S.n _ (by decide), rfl, k kn q1⟩
theorem okAll (F : L2.Fun K "allowed" "World.allowed" sAll f fd) (T : Cf K CW ["standings", "floor"]) (S : Cf K CS ["known", "limit", "pieces", "told", "rules", "guards", "steps"]) : FnOk P w K mg base CX0 1 f fd ["self"] (spAll K CW CS) := by
  refine F.ok scAll (fun vs H Q E h => by obtain ⟨a, ks, rfl, _⟩ := h; rfl) (fun cdv A outer s H vs Q E hr h => ?_)
  refine ⟨_, pss_one (ps_ret (pe_fld (pe_ix ix_tup (pe_fld (pv 0) rfl) (pe_un un_neg pe_int) (fun _ _ => rfl)) rfl)), ?_⟩
  obtain ⟨a, ks, rfl, ⟨dx, so, st, h0, h1, ⟨ex, kn, pl, pc, d, td, ru, gu, sp, q0, q1, q2, q3, q4, q5, q6, q7, q8⟩⟩, k⟩ := h
  refine ⟨_, rfl, a, CW, dx, _, _, rfl, h0, T.c, T.n _ (by decide), rfl, 1, rfl, so, _, _, _, rfl, rfl, h1, rfl, ?_⟩
  exact ⟨st, CS, ex, _, _, rfl, q0, S.c, S.n _ (by decide), rfl, k⟩
theorem okPage (F : L2.Fun K "page" "World.page" sPage f fd) (T : Cf K CW ["standings", "floor"]) (S : Cf K CS ["known", "limit", "pieces", "told", "rules", "guards", "steps"]) (cP : Cal P w K mg base CX0 3 "page_text" (spPT K)) : FnOk P w K mg base CX0 4 f fd ["self"] (spPage K CW CS) := by
  refine F.ok scPage (fun vs H Q E h => by obtain ⟨a, zs, rfl, _⟩ := h; rfl) (fun cdv A outer s H vs Q E hr h => ?_)
  refine ⟨_, pss_one (ps_ret (pe_c cP hr (by rfl) pass0 (pa_cons (pe_fld (pe_ix ix_tup (pe_fld (pv 0) rfl) pe_int (fun _ _ => rfl)) rfl) (pa_cons (pe_fld (pe_ix ix_tup (pe_fld (pv 0) rfl) (pe_un un_neg pe_int) (fun _ _ => rfl)) rfl) pa_nil)))), ?_⟩
  obtain ⟨a, zs, rfl, ⟨dx, so, st, h0, h1, ⟨ex, kn, pl, pc, d, td, ru, gu, sp, q0, q1, q2, q3, q4, q5, q6, q7, q8⟩⟩, fw, k⟩ := h
  refine ⟨_, rfl, a, CW, dx, _, _, rfl, h0, T.c, T.n _ (by decide), rfl, so, _, _, _, rfl, rfl, h1, rfl, ?_⟩
  refine ⟨st, CS, ex, _, _, rfl, q0, S.c, S.n _ (by decide), rfl, ?_⟩
  refine ⟨_, rfl, a, CW, dx, _, _, rfl, h0, T.c, T.n _ (by decide), rfl, 1, rfl, so, _, _, _, rfl, rfl, h1, rfl, ?_⟩
  refine ⟨st, CS, ex, _, _, rfl, q0, S.c, S.n _ (by decide), rfl, ?_⟩
  exact ⟨kn, sp, zs, rfl, q1, fw, q8, k⟩
theorem okVs (F : L2.Fun K "values_at" "World.values_at" sVs f fd) (B : Bt mg) (T : Cf K CW ["standings", "floor"]) (S : Cf K CS ["known", "limit", "pieces", "told", "rules", "guards", "steps"]) (cR : Cal P w K mg base CX0 1 "ruled_names" (spRuled K CS)) : FnOk P w K mg base CX0 2 f fd ["self", "n"] (spVs K CW CS) := by
  refine F.ok scVs (fun vs H Q E h => by obtain ⟨a, x, ks, rfl, _⟩ := h; rfl) (fun cdv A outer s H vs Q E hr h => ?_)
  refine ⟨_, pss_cons (ps_set (i := 2) scVs.nd rfl (.inl rfl) (pe_ix ix_tup (pe_fld (pv 0) rfl) (pe_un un_neg pe_int) (fun _ _ => rfl)))
    (pss_cons (ps_set (i := 3) scVs.nd rfl (.inl rfl) pe_dnewK)
    (pss_cons (ps_for PassesOwn.never rfl (pi_list (pe_callB cr_sortedS (by rfl) (B _ (by decide)) (by decide +kernel) (pa_cons
        (pe_lc (own := [("word", 4)]) (g := fun _ _ _ _ => False) (tt := tYes) rfl scVs.nd (pi_list (pe_op op_cat (pe_callTy call_list_of (by rfl) (B _ (by decide)) (by decide +kernel) (pa_cons (pe_fld (pv 2) rfl) pa_nil)) (pe_c cR hr (by rfl) pass0 (pa_cons (pv 2) pa_nil))))
          (blkOk_by (own := [("word", 4)]) (N := ["self", "n", "now", "found", "word", "name", "family"]) (sc := defScope sVs) (by decide +kernel)) (fun _ _ _ _ _ => pg_no) (fun _ _ _ _ _ => pts_nil) (fun _ _ _ _ _ => pe_no)) pa_nil)))
      (g := fun _ _ _ _ => False) pg_no pss_never)
    (pss_one (ps_ret (pv 3))))), ?_⟩
  obtain ⟨a, x, ks, rfl, ⟨dx, so, st, h0, h1, hst⟩, k⟩ := h
  refine ⟨_, rfl, a, CW, dx, _, _, rfl, h0, T.c, T.n _ (by decide), rfl, 1, rfl, so, _, _, _, rfl, rfl, h1, rfl, ?_⟩
  intro d hd
  have s1 := same_new (o := .dK []) hd
  have hst1 := hst.same s1
  obtain ⟨ex, kn, pl, pc, dd, td, ru, gu, sp, q0, q1, q2, q3, q4, q5, q6, q7, q8⟩ := id hst1
  refine ⟨_, rfl, st, CS, ex, _, _, rfl, q0, S.c, S.n _ (by decide), rfl, td, _, rfl, .inr q5, fun l hl => ?_⟩
  have s2 := same_new (o := .lst []) hl
  refine ⟨_, rfl, st, ks, rfl, hst1.same s2, fun H2 r s3 nr hr2 => ?_⟩
  refine ⟨l, r, [], [], rfl, rfl, s3 _ _ upd_same, hr2, Nat.zero_le _, fun p hp => ?_⟩
  refine ⟨p, rfl, ⟨_, SqL.of upd_same⟩, fun D hD => ?_⟩
  refine for_noneC walkL0 (SqL.of (same_new hD _ _ upd_same)) ?_
  refine ⟨D, [], rfl, SqL.of upd_same, by decide, fun ys o pm sr ho => ?_⟩
  obtain rfl : ys = [] := List.perm_nil.mp pm
  have sA := (((s2.trans s3).trans (same_new (o := .lst ([] ++ [])) hp)).trans (same_new (o := .lst []) hD)).trans (same_new (o := .lst ([].map V.str)) ho)
  refine ⟨o, rfl, ⟨_, SqL.of upd_same⟩, ?_⟩
  refine for_noneS walkL0 (SqL.of upd_same) ?_
  exact ⟨_, rfl, k _ d (s1.trans sA) hd (sA _ _ upd_same)⟩
theorem okLen (F : L2.Fun K "__len__" "World.__len__" sLen f fd) (B : Bt mg) (T : Cf K CW ["standings", "floor"]) : FnOk P w K mg base CX0 1 f fd ["self"] (spLen K CW CS) := by
  refine F.ok scLen (fun vs H Q E h => by obtain ⟨a, ks, rfl, _⟩ := h; rfl) (fun cdv A outer s H vs Q E hr h => ?_)
  refine ⟨_, pss_one (ps_ret (pe_callB call_len_seq (by rfl) (B _ (by decide)) (by decide +kernel) (pa_cons (pe_slice sl_tup (pe_fld (pv 0) rfl) (po_some pe_int) po_none) pa_nil))), ?_⟩
  obtain ⟨a, ks, rfl, ⟨dx, so, st, h0, h1, hst⟩, k⟩ := h
  refine ⟨_, rfl, a, CW, dx, _, _, rfl, h0, T.c, T.n _ (by decide), rfl, _, rfl, so, _, rfl, h1, (by show ¬ (HT.sIx 1 0 (some 1) = 0 ∧ HT.sIx 1 1 none = 1); decide), fun p hp => ?_⟩
  exact ⟨p, _, rfl, .inr (.inl (.inl upd_same)), k _ (same_new hp)⟩
theorem okIn (F : L2.Fun K "__contains__" "World.__contains__" sIn f fd) (T : Cf K CW ["standings", "floor"]) (S : Cf K CS ["known", "limit", "pieces", "told", "rules", "guards", "steps"]) (cR : Cal P w K mg base CX0 1 "ruled_names" (spRuled K CS)) : FnOk P w K mg base CX0 2 f fd ["self", "name"] (spIn K CW CS) := by
  refine F.ok scIn (fun vs H Q E h => by obtain ⟨a, x, ks, rfl, _⟩ := h; rfl) (fun cdv A outer s H vs Q E hr h => ?_)
  refine ⟨_, pss_cons (ps_set (i := 2) scIn.nd rfl (.inl rfl) (pe_ix ix_tup (pe_fld (pv 0) rfl) (pe_un un_neg pe_int) (fun _ _ => rfl)))
    (pss_cons (ps_if (pt_cmpR op_in_seq (pv 1) (pe_c cR hr (by rfl) pass0 (pa_cons (pv 2) pa_nil)) (by rfl)) pss_never pss_nil)
    (pss_cons (ps_if (pt_cmpR op_notIn_seq (pv 1) (pe_fld (pv 2) rfl) (by rfl)) (pss_one (ps_ret pe_bl)) pss_nil) pss_never)), ?_⟩
  obtain ⟨a, x, ks, rfl, ⟨dx, so, st, h0, h1, hst⟩, fx, k⟩ := h
  refine ⟨_, rfl, a, CW, dx, _, _, rfl, h0, T.c, T.n _ (by decide), rfl, 1, rfl, so, _, _, _, rfl, rfl, h1, rfl, ?_⟩
  refine ⟨_, rfl, _, rfl, st, ks, rfl, hst, fun H1 p s1 np hp => ?_⟩
  refine ⟨p, _, rfl, .inl (SqL.of hp), fx, rfl, _, rfl, iteF ?_⟩
  obtain ⟨ex, kn, pl, pc, dd, td, ru, gu, sp, q0, q1, q2, q3, q4, q5, q6, q7, q8⟩ := hst.same s1
  refine ⟨_, rfl, _, rfl, st, CS, ex, _, _, rfl, q0, S.c, S.n _ (by decide), rfl, td, _, rfl, .inr q5, fx, rfl, _, rfl, iteT ?_⟩
  exact k _ s1
end
end FN
end
section
set_option Elab.async false
set_option linter.all false
set_option maxRecDepth 100000
set_option maxHeartbeats 4000000
namespace FO
open PySem PySem.Spec PyProof.Rows L2 FK FA FB FC FD FE FF FH FI FJ FL FM FN
def spAF (K : PySem.W.Frag) (CS : Addr) : Sp := fun vs H Q _ => ∃ a b ks ls, vs = [.ref a, .ref b] ∧ Std K CS H a ks ∧ Std K CS H b ls ∧ ∀ H', Same H H' → Q (.bl true) H'
noncomputable abbrev sAF : Stmt := HK.stA TW 227
theorem scAF : FnScope ["one", "two", "name", "pieces", "low", "high", "state", "other", "answer"] ["one", "two"] (defScope sAF) := ⟨rfl, rfl, rfl, by decide +kernel, rfl, by decide +kernel, by decide +kernel⟩
def spAS (K : PySem.W.Frag) (CS : Addr) : Sp := fun vs H Q _ => ∃ a b, ∃ zs ys : List PySem.Str, vs = [.ref a, .ref b] ∧ Std K CS H a (zs.map V.str) ∧ Std K CS H b (ys.map V.str) ∧ (∀ z ∈ zs, okS z = true) ∧ (∀ z ∈ ys, okS z = true) ∧ ∀ H', Same H H' → Q (.bl (decide (zs = ys))) H'
noncomputable abbrev sAS : Stmt := HK.stA TW 228
theorem scAS : FnScope ["one", "two"] ["one", "two"] (defScope sAS) := ⟨rfl, rfl, rfl, by decide +kernel, rfl, by decide +kernel, by decide +kernel⟩
def spEq (K : PySem.W.Frag) (CW CS : Addr) : Sp := fun vs H Q _ => ∃ a y, ∃ zs : List PySem.Str, vs = [.ref a, y] ∧ Wld K CW CS H a (zs.map V.str) ∧ (∀ z ∈ zs, okS z = true) ∧
  ((∃ b, ∃ ys : List PySem.Str, y = .ref b ∧ Wld K CW CS H b (ys.map V.str) ∧ (∀ z ∈ ys, okS z = true) ∧ ∀ H', Same H H' → Q (.bl (decide (zs = ys))) H') ∨
   (∃ b ls, y = .ref b ∧ SqT K H b ls ∧ ∀ H', Same H H' → Q (.bl false) H'))
noncomputable abbrev sEq : Stmt := HK.kidA (HK.stA TW 243) 24
theorem scEq : FnScope ["self", "other"] ["self", "other"] (defScope sEq) := ⟨rfl, rfl, rfl, by decide +kernel, rfl, by decide +kernel, by decide +kernel⟩
structure IsiC (K : PySem.W.Frag) (C : Addr) : Prop where
  cl : Cls K C
  ha : PySem.W.findIn K (.ref C) "__class__" = some (some (.builtin "object.__class__"))
  hn : PySem.W.specialIn K (.builtin "object.__class__") "__get__" = some (some (.builtin "getset_descriptor.__get__"))
  htk : PySem.W.takesIn K (.builtin "object.__class__") = some true
  hm : PySem.W.mroIn K C (.type "object") = some true
  kp : PySem.W.keepIn K (.ref C) = true
  own : PySem.W.kitOne K (.ref C) (.ref C) = some true
  tup : PySem.W.kitOne K (.type "tuple") (.ref C) = some false
abbrev sf : List PySem.Str := ["known", "limit", "pieces", "told", "rules", "guards", "steps"]
section
variable {P : Program} {w : World} {K : PySem.W.Frag} {mg : PySem.Str → Option Value} {base : Heap} {f eE CF CW CS CN fN : Addr} {fd : FuncData} {dvs : List V}
theorem okAF (F : L2.Fun K "alike_families" "alike_families" sAF f fd) (B : Bt mg) (S : Cf K CS sf) (cJ : Cal P w K mg base CX0 1 "joined" spJoined) (cR : Cal P w K mg base CX0 1 "ruled_names" (spRuled K CS)) :
    FnOk P w K mg base CX0 2 f fd ["one", "two"] (spAF K CS) := by
  refine F.ok scAF (fun vs H Q E h => by obtain ⟨a, b, ks, ls, rfl, _⟩ := h; rfl) (fun cdv A outer s H vs Q E hr h => ?_)
  refine ⟨_, pss_cons (ps_for PassesOwn.never rfl (pi_list (pe_c cJ hr (by rfl) pass0 (pa_cons (pe_c cJ hr (by rfl) pass0 (pa_cons (pe_callTy call_list_of (by rfl) (B _ (by decide)) (by decide +kernel) (pa_cons (pe_fld (pv 0) rfl) pa_nil)) (pa_cons (pe_callTy call_list_of (by rfl) (B _ (by decide)) (by decide +kernel) (pa_cons (pe_fld (pv 1) rfl) pa_nil)) pa_nil)))
      (pa_cons (pe_c cR hr (by rfl) pass0 (pa_cons (pv 0) pa_nil)) pa_nil)))) (g := fun _ _ _ _ => False) pg_no pss_never) (pss_one (ps_ret pe_bl)), ?_⟩
  obtain ⟨a, b, ks, ls, rfl, ha, hb, k⟩ := h
  obtain ⟨ex, kn, pl, pc, dd, td, ru, gu, sp, q0, q1, q2, q3, q4, q5, q6, q7, q8⟩ := id ha
  refine ⟨_, rfl, a, CS, ex, _, _, rfl, q0, S.c, S.n _ (by decide), rfl, td, _, rfl, .inr q5, fun l hl => ?_⟩
  have s1 := same_new (o := .lst []) hl
  obtain ⟨ex', kn', pl', pc', dd', td', ru', gu', sp', r0, r1, r2, r3, r4, r5, r6, r7, r8⟩ := hb.same s1
  refine ⟨_, rfl, b, CS, ex', _, _, rfl, r0, S.c, S.n _ (by decide), rfl, td', _, rfl, .inr r5, fun m hm => ?_⟩
  have s2 := same_new (o := .lst []) hm
  refine ⟨l, m, rfl, s2 _ _ upd_same, upd_same, fun H1 p s3 np hp => ?_⟩
  refine ⟨_, rfl, a, ks, rfl, ha.same ((s1.trans s2).trans s3), fun H2 q s4 nq hq => ?_⟩
  refine ⟨p, q, rfl, s4 _ _ hp, hq, fun H3 t s5 nt ht => ?_⟩
  refine ⟨t, rfl, ⟨_, SqL.of ht⟩, for_noneS walkL0 (SqL.of ht) ?_⟩
  exact k _ (((s1.trans s2).trans s3).trans (s4.trans s5))
theorem okAS (F : L2.Fun K "alike_standings" "alike_standings" sAS f fd) (S : Cf K CS sf) (cA : Cal P w K mg base CX0 2 "alike_families" (spAF K CS)) :
    FnOk P w K mg base CX0 3 f fd ["one", "two"] (spAS K CS) := by
  refine F.ok scAS (fun vs H Q E h => by obtain ⟨a, b, ks, ls, rfl, _⟩ := h; rfl) (fun cdv A outer s H vs Q E hr h => ?_)
  refine ⟨_, pss_cons (ps_if (PW.pt (pw_or (pt_cmpR (op_neD hr.units) (pe_fld (pv 0) rfl) (pe_fld (pv 1) rfl) (nomark _)) (pw_or (pt_cmpR op_ne (pe_fld (pv 0) rfl) (pe_fld (pv 1) rfl) (nomark _)) (pw_or (pt_cmpR (op_neD hr.units) (pe_fld (pv 0) rfl) (pe_fld (pv 1) rfl) (nomark _))
      (pw_or1 (pt_cmpR (op_neD hr.units) (pe_fld (pv 0) rfl) (pe_fld (pv 1) rfl) (nomark _))))))) (pss_one (ps_ret pe_bl)) pss_nil) (pss_one (ps_ret (pe_c cA hr (by rfl) pass0 (pa_cons (pv 0) (pa_cons (pv 1) pa_nil))))), ?_⟩
  obtain ⟨a, b, zs, ys, rfl, ha, hb, oz, oy, k⟩ := h
  obtain ⟨ex, kn, pl, pc, dd, td, ru, gu, sp, q0, q1, q2, q3, q4, q5, q6, q7, q8⟩ := id ha
  obtain ⟨ex', kn', pl', pc', dd', td', ru', gu', sp', r0, r1, r2, r3, r4, r5, r6, r7, r8⟩ := id hb
  refine ⟨_, rfl, a, CS, ex, _, _, rfl, q0, S.c, S.n _ (by decide), rfl, ?_⟩
  refine ⟨_, rfl, b, CS, ex', _, _, rfl, r0, S.c, S.n _ (by decide), rfl, ?_⟩
  refine ⟨_, _, .tup q1 (dp_strs zs), .tup r1 (dp_strs ys), shaped_strs oz, shaped_strs oy, _, rfl, ?_⟩
  rw [eqv_tup]
  by_cases e : zs = ys
  · refine iteF' (by simp [e]) ?_
    refine ⟨_, rfl, a, CS, ex, _, _, rfl, q0, S.c, S.n _ (by decide), rfl, ?_⟩
    refine ⟨_, rfl, b, CS, ex', _, _, rfl, r0, S.c, S.n _ (by decide), rfl, ?_⟩
    refine ⟨rfl, _, rfl, iteF' (by simp) ?_⟩
    refine ⟨_, rfl, a, CS, ex, _, _, rfl, q0, S.c, S.n _ (by decide), rfl, ?_⟩
    refine ⟨_, rfl, b, CS, ex', _, _, rfl, r0, S.c, S.n _ (by decide), rfl, ?_⟩
    refine ⟨_, _, .tup q6 .nil, .tup r6 .nil, (by decide), (by decide), _, rfl, iteF' (by decide) ?_⟩
    refine ⟨_, rfl, a, CS, ex, _, _, rfl, q0, S.c, S.n _ (by decide), rfl, ?_⟩
    refine ⟨_, rfl, b, CS, ex', _, _, rfl, r0, S.c, S.n _ (by decide), rfl, ?_⟩
    refine ⟨_, _, .tup q7 .nil, .tup r7 .nil, (by decide), (by decide), _, rfl, iteF' (by decide) ?_⟩
    refine ⟨_, rfl, _, rfl, a, b, _, _, rfl, ha, hb, fun H1 s1 => ?_⟩
    have q := k H1 s1
    rw [decide_eq_true e] at q
    exact q
  · refine iteT' (by simp [e]) ?_
    have q := k H (Same.refl _)
    rw [decide_eq_false e] at q
    exact q
theorem okEq (F : L2.Fun K "__eq__" "World.__eq__" sEq f fd) (B : Bt mg) (T : Cf K CW ["standings", "floor"]) (W : IsiC K CW) (gW : mg "World" = some (.ref CW)) (cA : Cal P w K mg base CX0 3 "alike_standings" (spAS K CS)) :
    FnOk P w K mg base CX0 4 f fd ["self", "other"] (spEq K CW CS) := by
  refine F.ok scEq (fun vs H Q E h => by obtain ⟨a, y, zs, rfl, _⟩ := h; rfl) (fun cdv A outer s H vs Q E hr h => ?_)
  refine ⟨_, pss_one (ps_ret (pe_and (pe_callB call_isi (by rfl) (B _ (by decide)) (by decide +kernel) (pa_cons (pv 1) (pa_cons (pe_glob (v := .ref CW) (by rfl) gW rfl) pa_nil)))
    (pe_one (pe_c cA hr (by rfl) pass0 (pa_cons (pe_ix ix_tup (pe_fld (pv 0) rfl) (pe_un un_neg pe_int) (fun _ _ => rfl)) (pa_cons (pe_ix ix_tup (pe_fld (pv 1) rfl) (pe_un un_neg pe_int) (fun _ _ => rfl)) pa_nil)))))), ?_⟩
  obtain ⟨a, y, zs, rfl, ha, oz, h⟩ := h
  rcases h with ⟨b, ys, rfl, hb, oy, k⟩ | ⟨b, ls, rfl, hb, k⟩
  · obtain ⟨dx, so, st, h0, h1, hst⟩ := id ha
    obtain ⟨dx', so', st', g0, g1, hst'⟩ := id hb
    refine ⟨_, rfl, _, _, _, _, _, rfl, .own _, .base (.ins g0 W.cl W.ha W.hn W.htk W.hm), W.own, _, rfl, iteT ?_⟩
    refine ⟨_, rfl, a, CW, dx, _, _, rfl, h0, T.c, T.n _ (by decide), rfl, 1, rfl, so, _, _, _, rfl, rfl, h1, rfl, ?_⟩
    refine ⟨_, rfl, b, CW, dx', _, _, rfl, g0, T.c, T.n _ (by decide), rfl, 1, rfl, so', _, _, _, rfl, rfl, g1, rfl, ?_⟩
    exact ⟨st, st', zs, ys, rfl, hst, hst', oz, oy, k⟩
  · refine ⟨_, rfl, _, _, _, _, _, rfl, .own _, sq_ty hb, W.tup, _, rfl, iteF ?_⟩
    exact k _ (Same.refl _)
end
def spGI (K : PySem.W.Frag) (CW CS CF CN eE : Addr) : Sp := fun vs H Q E => ∃ a z ks, vs = [.ref a, .str z] ∧ z.length ≤ 100000 ∧ Wld K CW CS H a ks ∧ ks.all flatV = true ∧ ks.length ≤ 100 ∧
  ((nameV (.str z) = true ∧ inV (.str z) ks = false ∧ ∀ H' p, Same H H' → Fam K CF eE H' p ks → Q (.ref p) H') ∨
   ((nameV (.str z) = true → inV (.str z) ks = true) ∧ ∀ H' d, Same H H' → H d = none → H' d = some (.xd [("name", .str z)]) → E (.ref CN) (some d) H'))
noncomputable abbrev sGI : Stmt := HK.kidA (HK.stA TW 243) 22
theorem scGI : FnScope ["self", "name", "now"] ["self", "name"] (defScope sGI) := ⟨rfl, rfl, rfl, by decide +kernel, rfl, by decide +kernel, by decide +kernel⟩
section
variable {P : Program} {w : World} {K : PySem.W.Frag} {mg : PySem.Str → Option Value} {base : Heap} {f eE CF CW CS CN fN : Addr} {fd : FuncData} {dvs : List V}
theorem okGI (F : L2.Fun K "__getitem__" "World.__getitem__" sGI f fd) (T : Cf K CW ["standings", "floor"]) (S : Cf K CS sf) (SN : PySem.EXS.SupTxt P K mg "BadName" "name" CN fN)
    (cN : Cal P w K mg base CX0 2 "is_name" spName) (cV : Cal P w K mg base CX0 3 "values" (spVals K eE)) (cF : CalC P w K mg base CX0 1 "Family" CF (spFI K CF eE)) :
    FnOk P w K mg base (L2.CX P w) 4 f fd ["self", "name"] (spGI K CW CS CF CN eE) := by
  refine F.okX scGI (fun vs H Q E h => by obtain ⟨a, z, ks, rfl, _⟩ := h; rfl) (fun cdv A outer s H vs Q E hr h => ?_)
  refine ⟨_, pss_cons (ps_set (i := 2) scGI.nd rfl (.inl rfl) (pe_ix ix_tup (pe_fld (pv 0) rfl) (pe_un un_neg pe_int) (fun _ _ => rfl)))
    (pss_cons (ps_if (PW.pt (pw_or (pt_not (pt_val (pe_c cN (hr.mono (by decide)) (by rfl) pass0 (pa_cons (pv 1) pa_nil)))) (pw_or1 (pt_cmpR op_in_seq (pv 1) (pe_fld (pv 2) rfl) (by rfl)))))
      (pss_one (EXS.ps_raise1 rfl SN hr (takes_of rfl rfl rfl rfl) (pa_cons (pv 1) pa_nil))) pss_nil)
    (PSs.nox (pss_one (ps_ret (pe_mk cF (hr.mono (by decide)) (by rfl) pass0 (pa_cons pe_non (pa_cons pe_non (pa_cons (pe_tup (pa_cons (pe_fld (pv 2) rfl) (pa_cons (pe_c cV hr (by rfl) pass0 (pa_cons (pe_tup (pa_cons pe_str (pa_cons (pv 1) pa_nil))) (pa_cons (pe_fld (pv 2) rfl) (pa_cons (pe_fld (pv 2) rfl) pa_nil)))) pa_nil))) pa_nil)))))))), ?_⟩
  obtain ⟨a, z, ks, rfl, hz, ⟨dx, so, st, h0, h1, hst⟩, fl, hn, h⟩ := h
  refine ⟨_, rfl, a, CW, dx, _, _, rfl, h0, T.c, T.n _ (by decide), rfl, 1, rfl, so, _, _, _, rfl, rfl, h1, rfl, ?_⟩
  refine ⟨_, rfl, _, rfl, .str z hz, fun H1 s1 => ⟨_, rfl, ?_⟩⟩
  obtain ⟨ex, kn, pl, pc, dd, td, ru, gu, sp, q0, q1, q2, q3, q4, q5, q6, q7, q8⟩ := hst.same s1
  have rz : (∀ H' d, Same H H' → H d = none → H' d = some (.xd [("name", .str z)]) → E (.ref CN) (some d) H') → ∀ d, H1 d = none → E (.ref CN) (some d) (upd H1 d (.xd [("name", .str z)])) :=
    fun k d nd => k _ d (s1.trans (same_new nd)) (s1.free nd) upd_same
  cases hv : nameV (.str z) with
  | false =>
    rcases h with ⟨e, _⟩ | ⟨_, k⟩
    · rw [e] at hv; cases hv
    · refine iteT ?_
      exact ⟨_, rfl, _, rfl, rz k⟩
  | true =>
    refine iteF ?_
    refine ⟨_, rfl, _, rfl, st, CS, ex, _, _, rfl, q0, S.c, S.n _ (by decide), rfl, kn, ks, rfl, .inr q1, rfl, fl, _, rfl, ?_⟩
    rcases h with ⟨_, hi, k⟩ | ⟨hi, k⟩
    · refine iteF' hi ?_
      have za : z ≠ "all" := fun e => by
        rw [e] at hv
        exact absurd hv (by decide +kernel)
      refine ⟨_, rfl, st, CS, ex, _, _, rfl, q0, S.c, S.n _ (by decide), rfl, ?_⟩
      refine ⟨_, rfl, by show 2 ≤ sizeLine; decide, fun t ht => ?_⟩
      have s2 := same_new (o := .tup [.str "var", .str z]) ht
      refine ⟨_, rfl, st, CS, ex, _, _, rfl, s2 _ _ q0, S.c, S.n _ (by decide), rfl, ?_⟩
      refine ⟨_, rfl, st, CS, ex, _, _, rfl, s2 _ _ q0, S.c, S.n _ (by decide), rfl, ?_⟩
      refine ⟨t, kn, pl, pc, dd, z, ks, rfl, .inl (.inl upd_same), same_tup s2 q1, by omega, s2 _ _ q2, same_tup s2 q3, s2 _ _ q4, za, fun H2 l r s3 nl nr el er => ?_⟩
      refine ⟨by show 2 ≤ sizeLine; decide, fun m hm => ?_⟩
      have s4 := same_new (o := .tup [.ref kn, .ref l]) hm
      intro x dy nx ny ne
      have s5 := same_made (o := .ins CF dy []) nx ny ne
      have s25 := (s2.trans s3).trans (s4.trans s5)
      refine ⟨x, dy, m, kn, l, r, ks, rfl, upd_same, .inl (.inl (s5 _ _ upd_same)), same_tup s25 q1, s5 _ _ (s4 _ _ el), .inl (.inl (s5 _ _ (s4 _ _ er))), fun H3 b3 hF => ⟨rfl, ?_⟩⟩
      exact k H3 x ((s1.trans ((s2.trans s3).trans s4)).trans (same_but s5 nx b3)) hF
    · refine iteT' (hi hv) ?_
      exact ⟨_, rfl, _, rfl, rz k⟩
end
end FO
end
section
set_option Elab.async false
set_option linter.all false
set_option maxRecDepth 100000
set_option maxHeartbeats 4000000
namespace GA
open PySem PySem.Spec PyProof.Rows L2 FK FA FB FC FD FE FF FH FI FJ FL FM FN FO
theorem cutV_take (xs : List V) (k : Nat) : cutV xs none (some (k : Int)) = xs.take k := by
  unfold cutV
  rw [HT.sIx_none, HT.sIx_nat, List.drop_zero, Nat.sub_zero]
  by_cases h : k ≤ xs.length
  · rw [Nat.min_eq_left h]
  · rw [Nat.min_eq_right (by omega), List.take_length, List.take_of_length_le (by omega)]
theorem cutV_drop (xs : List V) (k : Nat) : cutV xs (some (k : Int)) none = xs.drop k := by
  unfold cutV
  rw [HT.sIx_none, HT.sIx_nat]
  by_cases h : k ≤ xs.length
  · rw [Nat.min_eq_left h]
    exact List.take_of_length_le (by rw [List.length_drop]; omega)
  · rw [Nat.min_eq_right (by omega), List.drop_length, List.drop_eq_nil_of_le (by omega), List.take_nil]
theorem same_sql {K : PySem.W.Frag} {H H' : Hp} {a : Addr} {xs : List V} (e : Same H H') (h : SqL K H a xs) : SqL K H' a xs := by
  rcases h with (h | ⟨o, h⟩) | h
  · exact .inl (.inl (e _ _ h))
  · exact .inl (.inr ⟨o, e _ _ h⟩)
  · exact .inr h
def penO (c : Addr) (b r : Int) : HO := .dK [(Sum.inr "cells", .ref c), (Sum.inr "begun", .int b), (Sum.inr "rest", .int r)]
def Pen (H : Hp) (p c : Addr) (N : Nat) : Prop := ∃ ns b r, H p = some (penO c b r) ∧ H c = some (.lst (List.map V.int ns)) ∧ ns.length ≤ 63 ∧ 0 ≤ b ∧ b ≤ N ∧ 0 ≤ r
theorem Pen.same {H H' : Hp} {p c : Addr} {N : Nat} (s : Same H H') (h : Pen H p c N) : Pen H' p c N := by
  obtain ⟨ns, b, r, h1, h2, h3⟩ := h
  exact ⟨ns, b, r, s _ _ h1, s _ _ h2, h3⟩
theorem Pen.put {H' : Hp} {p c : Addr} {ns : List Int} {b r : Int} {N : Nat} (h1 : H' p = some (penO c b r)) (h2 : H' c = some (.lst (ns.map V.int))) (h3 : ns.length ≤ 63) (h4 : 0 ≤ b) (h5 : b ≤ N) (h6 : 0 ≤ r) : Pen H' p c N := ⟨ns, b, r, h1, h2, h3, h4, h5, h6⟩
theorem share {G A : Prop} (h : G → A) (g : G) : A := h g
theorem shareI {G : Int → Prop} {A : Prop} (h : (∀ x, G x) → A) (g : ∀ x, G x) : A := h g
def spPen (K : PySem.W.Frag) : Sp := fun vs H Q _ => ∃ a ns, vs = [.ref a] ∧ SqL K H a (List.map V.int ns) ∧ ns.length ≤ 63 ∧ ∀ H' p c, Same H H' → H p = none → Pen H' p c 0 → Q (.ref p) H'
noncomputable abbrev sPen : Stmt := HK.stA TW 246
theorem scPen : FnScope ["_law_script"] ["_law_script"] (defScope sPen) := ⟨rfl, rfl, rfl, by decide +kernel, rfl, by decide +kernel, by decide +kernel⟩
def spDraw : Sp := fun vs H Q _ => ∃ p c N, ∃ m : Int, vs = [.ref p, .int m] ∧ 1 ≤ m ∧ m ≤ 2000 ∧ Pen H p c N ∧ N ≤ 100000 ∧ ∀ (r : Int) H', 0 ≤ r → r < m → SameB p H H' → Pen H' p c (N + 1) → Q (.int r) H'
noncomputable abbrev sDraw : Stmt := HK.stA TW 247
theorem scDraw : FnScope ["_law_pen_here", "_law_many", "_law_digit", "_law_spot", "_law_size", "_law_cell", "_law_stir"] ["_law_pen_here", "_law_many"] (defScope sDraw) := ⟨rfl, rfl, rfl, by decide +kernel, rfl, by decide +kernel, by decide +kernel⟩
section
variable {P : Program} {w : World} {K : PySem.W.Frag} {mg : PySem.Str → Option Value} {base : Heap} {f : Addr} {fd : FuncData}
theorem okPen (F : L2.Fun K "_law_pen" "_law_pen" sPen f fd) (B : Bt mg) : FnOk P w K mg base CX0 1 f fd ["_law_script"] (spPen K) := by
  refine F.ok scPen (fun vs H Q E h => by obtain ⟨a, ns, rfl, _⟩ := h; rfl) (fun cdv A outer s H vs Q E hr h => ?_)
  refine ⟨_, pss_one (ps_ret (pe_disp (pps_cons pe_str (pe_callTy call_list_of (by rfl) (B _ (by decide)) (by decide +kernel) (pa_cons (pe_slice sl_list (pv 0) po_none (po_some pe_int)) pa_nil)) (pps_cons pe_str pe_int (pps_cons pe_str pe_int pps_nil))) (by rfl) (by rfl) (fun z => by cases z) (by decide))), ?_⟩
  obtain ⟨a, ns, rfl, ha, hn, k⟩ := h
  intro p hp
  have s1 := same_new (o := .dK []) hp
  refine ⟨_, rfl, _, rfl, a, _, rfl, same_sql s1 ha, fun q hq => ?_⟩
  rw [show cutV (List.map V.int ns) none (some 63) = List.map V.int (ns.take 63) from by rw [show (some (63 : Int)) = some ((63 : Nat) : Int) from rfl, cutV_take, List.map_take]]
  have s2 := same_new (o := .lst (List.map V.int (ns.take 63))) hq
  refine ⟨q, _, rfl, .inl (SqL.of upd_same), fun c hc => ?_⟩
  have s3 := same_new (o := .lst (List.map V.int (ns.take 63))) hc
  have s23 := s2.trans s3
  refine ⟨s23 _ _ upd_same, [(Sum.inr "cells", .ref c), (Sum.inr "begun", .int 0), (Sum.inr "rest", .int 0)], rfl, (by show 3 ≤ 15; decide), ?_⟩
  have hpc : c ≠ p := Ne.symm (ne_of_none (s2 _ _ upd_same) hc)
  refine k _ p c (same_upd hp ((s1.trans s2).trans s3)) hp (Pen.put (c := c) (ns := ns.take 63) (b := 0) (r := 0) ?_ ?_ ?_ (by decide) (by decide) (by decide))
  · exact upd_same
  · exact look_ne upd_same hpc
  · rw [List.length_take]
    omega
theorem okDraw (F : L2.Fun K "_law_draw" "_law_draw" sDraw f fd) (B : Bt mg) : FnOk P w K mg base CX0 1 f fd ["_law_pen_here", "_law_many"] spDraw := by
  refine F.ok scDraw (fun vs H Q E h => by obtain ⟨p, c, N, m, rfl, _⟩ := h; rfl) (fun cdv A outer s H vs Q E hr h => ?_)
  refine ⟨_, pss_cons (ps_if (pt_cmpR op_gt (pe_dget (hu_of hr) (pv 0) pe_str (fun _ _ => rfl)) pe_int (nomark _))
      (pss_cons (ps_set (i := 2) scDraw.nd rfl (.inl rfl) (pe_op op_mod (pe_callTy call_int1 (by rfl) (B _ (by decide)) (by decide +kernel) (pa_cons (pe_dget (hu_of hr) (pv 0) pe_str (fun _ _ => rfl)) pa_nil)) (pv 1)))
      (pss_cons (ps_dput (hu_of hr) (pv 0) pe_str (pe_op op_fdiv (pe_dget (hu_of hr) (pv 0) pe_str (fun _ _ => rfl)) (pv 1)) rfl)
      (pss_one (ps_ret (pv 2))))) pss_nil)
    (pss_cons (ps_par (i := 3) (j := 4) rfl scDraw.nd rfl rfl (by decide) rfl rfl (pa_cons (pe_dget (hu_of hr) (pv 0) pe_str (fun _ _ => rfl)) (pa_cons (pe_callB call_len_seq (by rfl) (B _ (by decide)) (by decide +kernel) (pa_cons (pe_dget (hu_of hr) (pv 0) pe_str (fun _ _ => rfl)) pa_nil)) pa_nil)) rfl)
    (pss_cons (ps_dput (hu_of hr) (pv 0) pe_str (pe_op op_add (pv 3) pe_int) rfl)
    (pss_cons (ps_set (i := 5) scDraw.nd rfl (.inl rfl) (pe_op op_add (pe_op op_mul pe_int (pv 3)) pe_int))
    (pss_cons (ps_if (pt_cmpR op_gt (pv 4) pe_int (nomark _)) (pss_one (ps_set (i := 5) scDraw.nd rfl (.inl rfl) (pe_ix ix_list (pe_dget (hu_of hr) (pv 0) pe_str (fun _ _ => rfl)) (pe_op op_mod (pe_callTy call_int1 (by rfl) (B _ (by decide)) (by decide +kernel) (pa_cons (pv 3) pa_nil)) (pv 4)) (fun _ _ => rfl)))) pss_nil)
    (pss_cons (ps_if (PW.pt (pw_and (pt_cmpR op_lt (pv 3) (pv 4) (nomark _)) (pw_and1 (pt_cmpR op_ge (pe_callB call_abs (by rfl) (B _ (by decide)) (by decide +kernel) (pa_cons (pv 5) pa_nil)) (pe_op op_pow pe_int pe_int) (nomark _)))))
      (pss_cons (ps_dput (hu_of hr) (pv 0) pe_str (pe_op op_fdiv (pe_op op_sub (pe_callB call_abs (by rfl) (B _ (by decide)) (by decide +kernel) (pa_cons (pv 5) pa_nil)) (pe_op op_pow pe_int pe_int)) (pv 1)) rfl)
      (pss_one (ps_ret (pe_op op_mod (pe_op op_sub (pe_callB call_abs (by rfl) (B _ (by decide)) (by decide +kernel) (pa_cons (pv 5) pa_nil)) (pe_op op_pow pe_int pe_int)) (pv 1))))) pss_nil)
    (pss_cons (ps_set (i := 6) scDraw.nd rfl (.inl rfl) (pe_op op_mod (pe_callTy call_int1 (by rfl) (B _ (by decide)) (by decide +kernel) (pa_cons (pe_op op_add (pe_op op_add (pe_op op_mul (pe_op op_mod (pe_callTy call_int1 (by rfl) (B _ (by decide)) (by decide +kernel) (pa_cons (pv 5) pa_nil)) pe_int) pe_int) (pe_op op_mul (pe_op op_mul pe_int (pv 3)) (pv 3))) pe_int) pa_nil)) pe_int))
    (pss_cons (ps_set (i := 6) scDraw.nd rfl (.inl rfl) (pe_op op_mod (pe_callTy call_int1 (by rfl) (B _ (by decide)) (by decide +kernel) (pa_cons (pe_op op_add (pe_op op_add (pe_op op_add (pe_op op_mul (pv 6) (pv 6)) (pe_op op_mul pe_int (pv 6))) (pe_op op_mul pe_int (pv 3))) pe_int) pa_nil)) pe_int))
    (pss_cons (ps_set (i := 6) scDraw.nd rfl (.inl rfl) (pe_op op_fdiv (pe_op op_mod (pe_callTy call_int1 (by rfl) (B _ (by decide)) (by decide +kernel) (pa_cons (pe_op op_mul (pv 6) (pe_op op_add (pv 6) pe_int)) pa_nil)) pe_int) pe_int))
    (pss_one (ps_ret (pe_op op_mod (pe_callTy call_int1 (by rfl) (B _ (by decide)) (by decide +kernel) (pa_cons (pv 6) pa_nil)) (pv 1)))))))))))), ?_⟩
  obtain ⟨p, c, N, m, rfl, hm1, hm2, ⟨ns, b, r, hp, hc, hn, hb0, hbN, hr0⟩, hN, k⟩ := h
  have cp : c ≠ p := fun z => by
    rw [z] at hc
    have := hp.symm.trans hc
    cases this
  have g1 : DGet H p (.str "rest") (some (.int r)) := DGet.k (k := Sum.inr "rest") hp
  have g2 : DGet H p (.str "begun") (some (.int b)) := DGet.k (k := Sum.inr "begun") hp
  have g3 : DGet H p (.str "cells") (some (.ref c)) := DGet.k (k := Sum.inr "cells") hp
  have m0 : 0 < m := by omega
  have m30 : m < 1073741824 := by omega
  refine ⟨_, rfl, p, _, rfl, g1, _, _, rfl, rfl, _, rfl, ?_⟩
  by_cases h0 : 0 < r
  · refine iteT' (decide_eq_true h0) ?_
    refine ⟨_, rfl, p, _, rfl, g1, .inl ⟨_, rfl, _, rfl, _, _, rfl, rfl, m0, ?_⟩⟩
    refine ⟨_, rfl, p, _, rfl, g1, _, rfl, _, _, rfl, rfl, ⟨m0, m30⟩, _, rfl, p, _, rfl, DPut.k (k := Sum.inr "rest") hp (by show 3 < sizeLine; decide), ?_⟩
    refine ⟨_, rfl, k _ _ (Int.emod_nonneg _ (by omega)) (Int.emod_lt_of_pos _ m0) ((SameB.of (Same.refl _)).up) (Pen.put (c := c) (ns := ns) (b := b) (r := r / m) upd_same (look_ne hc cp) hn hb0 (by omega) (Int.ediv_nonneg hr0 (by omega)))⟩
  · refine iteF' (decide_eq_false h0) ?_
    refine ⟨_, rfl, p, _, rfl, g2, _, rfl, p, _, rfl, g3, c, _, rfl, .inl (SqL.of hc), _, _, rfl, ?_⟩
    refine ⟨_, rfl, _, _, rfl, rfl, _, rfl, p, _, rfl, DPut.k (k := Sum.inr "begun") hp (by show 3 < sizeLine; decide), ?_⟩
    have b1 : SameB p H (upd H p (penO c (b + 1) r)) := (SameB.of (Same.refl _)).up
    have p1 : (upd H p (penO c (b + 1) r)) p = some (penO c (b + 1) r) := upd_same
    have c1 : (upd H p (penO c (b + 1) r)) c = some (.lst (List.map V.int ns)) := look_ne hc cp
    have key : ∀ (x r' : Int), 0 ≤ r' → Q (.int (x % m)) (upd (upd H p (penO c (b + 1) r)) p (penO c (b + 1) r')) := fun x r' hr' =>
      k _ _ (Int.emod_nonneg _ (by omega)) (Int.emod_lt_of_pos _ m0) b1.up (Pen.put (c := c) (ns := ns) (b := b + 1) (r := r') upd_same (look_ne c1 cp) hn (by omega) (by omega) hr')
    have key0 : ∀ (x : Int), Q (.int (x % m)) (upd H p (penO c (b + 1) r)) := fun x =>
      k _ _ (Int.emod_nonneg _ (by omega)) (Int.emod_lt_of_pos _ m0) b1 (Pen.put (c := c) (ns := ns) (b := b + 1) (r := r) upd_same c1 hn (by omega) (by omega) hr0)
    have pb : -(2 ^ 64) < b ∧ b < 2 ^ 64 := ⟨by omega, by omega⟩
    refine ⟨_, rfl, _, _, rfl, rfl, .inl ⟨by decide, by decide⟩, _, _, rfl, rfl, ?_⟩
    refine ⟨_, rfl, _, _, rfl, rfl, _, rfl, ?_⟩
    rw [List.length_map]
    apply shareI
    case h =>
      intro G
      by_cases hz : (0 : Int) < (ns.length : Nat)
      · refine iteT' (decide_eq_true hz) ?_
        have e0 : 0 ≤ b % (ns.length : Nat) := Int.emod_nonneg _ (by omega)
        have e1 : b % (ns.length : Nat) < (ns.length : Nat) := Int.emod_lt_of_pos _ hz
        obtain ⟨x, hx⟩ : ∃ x : Int, atI (List.map V.int ns) (b % (ns.length : Nat)) = some (V.int x) := by
          obtain ⟨i, hi⟩ := Int.eq_ofNat_of_zero_le e0
          rw [hi]
          have hi' : i < ns.length := by omega
          exact ⟨ns[i], atI_nat (by rw [List.getElem?_map, List.getElem?_eq_getElem hi']; rfl)⟩
        refine ⟨_, rfl, p, _, rfl, DGet.k (k := Sum.inr "cells") p1, _, rfl, .inl ⟨_, rfl, _, rfl, _, _, rfl, rfl, hz, c, _, _, _, rfl, rfl, SqL.of c1, hx, ?_⟩⟩
        exact G x
      · refine iteF' (decide_eq_false hz) ?_
        exact G (73 * b + 19)
    case g =>
      intro x
      apply share
      case h =>
        intro G
        refine ⟨_, rfl, _, rfl, _, _, rfl, rfl, _, rfl, ?_⟩
        by_cases h1 : b < (ns.length : Nat)
        · refine iteT' (decide_eq_true h1) ?_
          refine ⟨_, rfl, _, rfl, _, _, rfl, rfl, ⟨by decide, by decide, by decide⟩, _, _, rfl, rfl, _, rfl, ?_⟩
          by_cases h2 : (10 : Int) ^ (18 : Int).toNat ≤ (if x < 0 then -x else x)
          · refine iteT' (decide_eq_true h2) ?_
            refine ⟨_, rfl, _, rfl, _, _, rfl, rfl, ⟨by decide, by decide, by decide⟩, _, _, rfl, rfl, _, rfl, _, _, rfl, rfl, ⟨m0, m30⟩, _, rfl, p, _, rfl, DPut.k (k := Sum.inr "rest") p1 (by show 3 < sizeLine; decide), ?_⟩
            refine ⟨_, rfl, _, rfl, _, _, rfl, rfl, ⟨by decide, by decide, by decide⟩, _, _, rfl, rfl, _, rfl, _, _, rfl, rfl, m0, ?_⟩
            exact key _ _ (Int.ediv_nonneg (Int.sub_nonneg_of_le h2) (Int.le_of_lt m0))
          · refine iteF' (decide_eq_false h2) ?_
            exact G
        · refine iteF' (decide_eq_false h1) ?_
          exact G
      case g =>
        have md : ∀ y k : Int, 0 < k → k ≤ 2 ^ 40 → -(2 ^ 64) < y % k ∧ y % k < 2 ^ 64 := fun y k h1 h2 => by
          have := Int.emod_nonneg y (show k ≠ 0 by omega)
          have := Int.emod_lt_of_pos y h1
          constructor <;> omega
        refine ⟨_, rfl, .inl ⟨_, rfl, _, _, rfl, rfl, (by show (0 : Int) < 4294967231; decide), _, _, rfl, rfl, .inr ⟨by decide, by decide⟩, _, rfl, _, _, rfl, rfl, .inl ⟨by decide, by decide⟩, _, rfl, _, _, rfl, rfl, .inr pb, _, _, rfl, rfl, _, _, rfl, rfl, .inl ⟨_, rfl, _, _, rfl, rfl, (by show (0 : Int) < 4294967279; decide), ?_⟩⟩⟩
        refine ⟨_, rfl, _, rfl, _, _, rfl, rfl, .inl (md _ 4294967279 (by decide) (by decide)), _, rfl, _, _, rfl, rfl, .inr (md _ 4294967279 (by decide) (by decide)), _, _, rfl, rfl, _, rfl, _, _, rfl, rfl, .inr pb, _, _, rfl, rfl, _, _, rfl, rfl, .inl ⟨_, rfl, _, _, rfl, rfl, (by show (0 : Int) < 4294967291; decide), ?_⟩⟩
        refine ⟨_, rfl, _, rfl, _, _, rfl, rfl, _, _, rfl, rfl, .inl (md _ 4294967291 (by decide) (by decide)), .inl ⟨_, rfl, _, _, rfl, rfl, (by show (0 : Int) < 4294967197; decide), _, _, rfl, rfl, ⟨by decide, by decide⟩, ?_⟩⟩
        refine ⟨_, rfl, .inl ⟨_, rfl, _, rfl, _, _, rfl, rfl, m0, ?_⟩⟩
        exact key0 _
end
end GA
end
section
set_option Elab.async false
set_option linter.all false
set_option maxRecDepth 100000
set_option maxHeartbeats 4000000
namespace GB
open PySem PySem.Spec PyProof.Rows L2 FK FA FB FC FD FE FF FH FI FJ FL FM FN FO GA
theorem Pen.mono {H : Hp} {p c : Addr} {N M : Nat} (h : Pen H p c N) (l : N ≤ M) : Pen H p c M := by
  obtain ⟨ns, b, r, h1, h2, h3, h4, h5, h6⟩ := h
  exact ⟨ns, b, r, h1, h2, h3, h4, by omega, h6⟩
theorem Pen.dk {H : Hp} {p c : Addr} {N : Nat} (h : Pen H p c N) : ∃ kvs, H p = some (.dK kvs) := by
  obtain ⟨ns, b, r, h1, _⟩ := h
  exact ⟨_, h1⟩
theorem Pen.cell {H : Hp} {p c : Addr} {N : Nat} (h : Pen H p c N) : ∃ xs, H c = some (.lst xs) := by
  obtain ⟨ns, b, r, h1, h2, _⟩ := h
  exact ⟨_, h2⟩
theorem Pen.keep {H H' : Hp} {p c : Addr} {N : Nat} (h : Pen H p c N) (h1 : H' p = H p) (h2 : H' c = H c) : Pen H' p c N := by
  obtain ⟨ns, b, r, q1, q2, q3⟩ := h
  exact ⟨ns, b, r, h1.trans q1, h2.trans q2, q3⟩
theorem sqlB {K : PySem.W.Frag} {p : Addr} {H H' : Hp} {a : Addr} {xs : List V} {kvs : List (L2.Key × V)} (s : SameB p H H') (hp : H p = some (.dK kvs)) (h : SqL K H a xs) : SqL K H' a xs := by
  rcases h with (h | ⟨q, h⟩) | h
  · exact .inl (.inl (s _ _ (fun e => by rw [e, hp] at h; cases h) h))
  · exact .inl (.inr ⟨q, s _ _ (fun e => by rw [e, hp] at h; cases h) h⟩)
  · exact .inr h
theorem nt_dk {kvs : List (L2.Key × V)} (ys : List V) : HO.dK kvs ≠ .tup ys ∧ ∀ q, HO.dK kvs ≠ .frz q (.tup ys) := ⟨(by intro z; cases z), (by intro q z; cases z)⟩
theorem seq_nat {i n : Nat} (h : i < n) : PySem.seqIndex? (i : Int) n = some i := by
  unfold PySem.seqIndex?
  first
    | (simp; omega)
    | (split <;> simp <;> omega)
    | simp [h]
theorem erase_map {α β : Type} (f : α → β) : ∀ (l : List α) (i : Nat), (l.map f).eraseIdx i = (l.eraseIdx i).map f
  | [], _ => rfl
  | _ :: _, 0 => rfl
  | a :: l, i + 1 => by
    show f a :: (l.map f).eraseIdx i = f a :: (l.eraseIdx i).map f
    rw [erase_map f l i]
theorem erase_perm' {α : Type} : ∀ (l : List α) (i : Nat) (h : i < l.length), (l[i] :: l.eraseIdx i).Perm l
  | a :: l, 0, _ => List.Perm.refl _
  | a :: l, i + 1, h => by
    have hl : i < l.length := by simpa using h
    show (l[i] :: a :: l.eraseIdx i).Perm (a :: l)
    exact (List.Perm.swap _ _ _).trans (List.Perm.cons _ (erase_perm' l i hl))
def spPick (K : PySem.W.Frag) : Sp := fun vs H Q _ => ∃ p c N x, vs = [.ref p, x] ∧ Pen H p c N ∧ N ≤ 99999 ∧
  ((∃ o xs, x = .ref o ∧ SqL K H o xs ∧ 1 ≤ xs.length ∧ xs.length ≤ 2000 ∧ ∀ v ∈ xs, ∀ H', SameB p H H' → Pen H' p c (N + 1) → Q v H') ∨
   (∃ z : PySem.Str, x = .str z ∧ 1 ≤ z.cps.size ∧ z.cps.size ≤ 2000 ∧ ∀ g ∈ z.cps.toList, ∀ H', SameB p H H' → Pen H' p c (N + 1) → Q (.str ⟨#[g]⟩) H'))
noncomputable abbrev sPick : Stmt := HK.stA TW 248
theorem scPick : FnScope ["_law_pen_here", "_law_options"] ["_law_pen_here", "_law_options"] (defScope sPick) := ⟨rfl, rfl, rfl, by decide +kernel, rfl, by decide +kernel, by decide +kernel⟩
section
variable {P : Program} {w : World} {K : PySem.W.Frag} {mg : PySem.Str → Option Value} {base : Heap} {f : Addr} {fd : FuncData}
theorem okPick (F : L2.Fun K "_law_pick" "_law_pick" sPick f fd) (B : Bt mg) (cD : Cal P w K mg base CX0 1 "_law_draw" spDraw) : FnOk P w K mg base CX0 2 f fd ["_law_pen_here", "_law_options"] (spPick K) := by
  refine F.ok scPick (fun vs H Q E h => by obtain ⟨p, c, N, x, rfl, _⟩ := h; rfl) (fun cdv A outer s H vs Q E hr h => ?_)
  refine ⟨_, pss_one (ps_ret (pe_ix ix_seq (pv 1) (pe_c cD hr (by rfl) pass0 (pa_cons (pv 0) (pa_cons (pe_callB call_len (by rfl) (B _ (by decide)) (by decide +kernel) (pa_cons (pv 1) pa_nil)) pa_nil))) (fun _ _ => rfl))), ?_⟩
  obtain ⟨p, c, N, x, rfl, hp, hN, h⟩ := h
  rcases h with ⟨o, xs, rfl, ho, h1, h2, k⟩ | ⟨z, rfl, h1, h2, k⟩
  · refine ⟨_, rfl, _, rfl, _, rfl, .ref o, xs.length, rfl, .inl ⟨xs, ho, rfl⟩, ?_⟩
    refine ⟨p, c, N, (xs.length : Nat), rfl, by omega, by omega, hp, by omega, fun r H' r0 r1 sB hp' => ?_⟩
    obtain ⟨i, rfl⟩ := Int.eq_ofNat_of_zero_le r0
    have hi : i < xs.length := by omega
    obtain ⟨kvs, hk⟩ := Pen.dk hp
    exact .inl ⟨o, xs, _, xs[i], rfl, rfl, sqlB sB hk ho, atI_nat (List.getElem?_eq_getElem hi), k _ (List.getElem_mem hi) _ sB hp'⟩
  · have hz : z.length ≤ sizeLine := by
      rw [sizeLine_eq]
      show z.cps.size ≤ _
      omega
    refine ⟨_, rfl, _, rfl, _, rfl, .str z, z.length, rfl, ⟨hz, rfl⟩, ?_⟩
    refine ⟨p, c, N, (z.length : Nat), rfl, ?_, ?_, hp, by omega, fun r H' r0 r1 sB hp' => ?_⟩
    · show (1 : Int) ≤ (z.cps.size : Nat)
      omega
    · show ((z.cps.size : Nat) : Int) ≤ _
      omega
    obtain ⟨i, rfl⟩ := Int.eq_ofNat_of_zero_le r0
    have hi : i < z.cps.toList.length := by
      have q : ((i : Nat) : Int) < (z.cps.size : Nat) := r1
      rw [Array.length_toList]
      omega
    exact .inr (.inr ⟨z, _, z.cps.toList[i], rfl, rfl, hz, atI_nat (List.getElem?_eq_getElem hi), k _ (List.getElem_mem hi) _ sB hp'⟩)
end
def spShuf (K : PySem.W.Frag) : Sp := fun vs H Q _ => ∃ p c N it, ∃ zs : List PySem.Str, vs = [.ref p, .ref it] ∧ Pen H p c N ∧ N ≤ 90000 ∧ SqL K H it (zs.map V.str) ∧ zs.length ≤ 20 ∧ (∀ z ∈ zs, okS z = true) ∧
  ∀ H' F, ∀ ys : List PySem.Str, SameB p H H' → Pen H' p c (N + 20) → ys.Perm zs → H F = none → H' F = some (.lst (ys.map V.str)) → Q (.ref F) H'
noncomputable abbrev sShuf : Stmt := HK.stA TW 249
theorem scShuf : FnScope ["_law_pen_here", "_law_items", "_law_rest", "_law_found"] ["_law_pen_here", "_law_items"] (defScope sShuf) := ⟨rfl, rfl, rfl, by decide +kernel, rfl, by decide +kernel, by decide +kernel⟩
theorem shaped_strsL {zs : List PySem.Str} (h : ∀ z ∈ zs, okS z = true) : SeqAt.shaped (.list (zs.map PyData.str)) = true := by
  unfold SeqAt.shaped
  rw [Bool.and_eq_true]
  refine ⟨?_, decide_eq_true ?_⟩
  · rw [PyData.canLay0]
    exact can_strs zs h
  · rw [PyData.depth]
    have := depth_strs zs
    omega
section
variable {P : Program} {w : World} {K : PySem.W.Frag} {mg : PySem.Str → Option Value} {base : Heap} {f : Addr} {fd : FuncData}
theorem okShuf (F : L2.Fun K "_law_shuffled" "_law_shuffled" sShuf f fd) (B : Bt mg) (cD : Cal P w K mg base CX0 1 "_law_draw" spDraw) : FnOk P w K mg base CX0 2 f fd ["_law_pen_here", "_law_items"] (spShuf K) := by
  refine F.ok scShuf (fun vs H Q E h => by obtain ⟨p, c, N, it, zs, rfl, _⟩ := h; rfl) (fun cdv A outer s H vs Q E hr h => ?_)
  refine ⟨_, pss_cons (ps_par (i := 2) (j := 3) rfl scShuf.nd rfl rfl (by decide) rfl rfl (pa_cons (pe_callTy call_list_of (by rfl) (B _ (by decide)) (by decide +kernel) (pa_cons (pv 1) pa_nil)) (pa_cons (pe_lst pa_nil) pa_nil)) rfl)
    (pss_cons (ps_while PassesOwn.never (pt_cmpR (op_neD hr.units) (pv 2) (pe_lst pa_nil) (nomark _))
      (pss_one (ps_expr (pe_bm PySem.F.plainAttrs_list PySem.F.slot_list_append PySem.F.type_list_append mt_append (pv 3) (pa_cons
        (pe_bm PySem.F.plainAttrs_list PySem.F.slot_list_pop PySem.F.type_list_pop mt_popAt (pv 2) (pa_cons (pe_c cD hr (by rfl) pass0 (pa_cons (pv 0) (pa_cons (pe_callB call_len_seq (by rfl) (B _ (by decide)) (by decide +kernel) (pa_cons (pv 2) pa_nil)) pa_nil))) pa_nil)) pa_nil)))))
    (pss_one (ps_ret (pv 3)))), ?_⟩
  obtain ⟨p, c, N, it, zs, rfl, hp, hN, hit, hz, ok, k⟩ := h
  refine ⟨_, rfl, it, _, rfl, .inl hit, fun R nR => ?_⟩
  refine ⟨by show 0 ≤ sizeLine; decide, fun G nG => ?_⟩
  refine ⟨_, _, rfl, ?_⟩
  have s1 := same_new (o := .lst (zs.map V.str)) nR
  have s2 := same_new (o := .lst []) nG
  have RG : R ≠ G := ne_of_none upd_same nG
  have nG' : H G = none := s1.free nG
  obtain ⟨kvs, hk⟩ := Pen.dk hp
  have pR : p ≠ R := ne_of_none hk nR
  have pG : p ≠ G := ne_of_none hk nG'
  refine ⟨fun m σ H' => ∃ rs fs : List PySem.Str, m = rs.length ∧ σ = [some (.ref p), some (.ref it), some (.ref R), some (.ref G)] ∧ SameB p H H' ∧ Pen H' p c (N + (zs.length - rs.length)) ∧ rs.length ≤ zs.length ∧ H' R = some (.lst (rs.map V.str)) ∧ H' G = some (.lst (fs.map V.str)) ∧ (fs ++ rs).Perm zs,
    ⟨zs.length, zs, [], rfl, rfl, SameB.of (s1.trans s2), Pen.mono (Pen.same (s1.trans s2) hp) (Nat.le_add_right _ _), Nat.le_refl _, s2 _ _ upd_same, upd_same, List.Perm.refl _⟩, ?_⟩
  rintro m σ H' ⟨rs, fs, rfl, rfl, b, hP, hl, hR, hG, pm⟩
  refine ⟨_, rfl, by show 0 ≤ sizeLine; decide, fun l nl => ?_⟩
  have s3 := same_new (o := .lst []) nl
  have okr : ∀ z ∈ rs, okS z = true := fun z h => ok z (pm.mem_iff.mp (List.mem_append_right _ h))
  refine ⟨.list (rs.map PyData.str), .list [], .lst (SqL.of (s3 _ _ hR)) (dp_strs rs), .lst (SqL.of upd_same) .nil, shaped_strsL okr, (by decide), _, rfl, ?_⟩
  have ee : PyData.eqv (.list (rs.map PyData.str)) (.list []) = decide (rs = []) := by
    rw [PyData.eqv]
    exact eqv_strs rs []
  rw [ee]
  by_cases e : rs = []
  · refine iteF' (by simp [e]) ?_
    subst e
    rw [List.append_nil] at pm
    refine ⟨_, rfl, k _ G fs (b.thn s3) ?_ pm nG' (s3 _ _ hG)⟩
    exact Pen.mono (Pen.same s3 hP) (by simp only [List.length_nil]; omega)
  · refine iteT' (by simp [e]) ?_
    have hpos : 0 < rs.length := List.length_pos_iff.mpr e
    refine ⟨fun σ' H'' => ∃ rs' fs' : List PySem.Str, rs'.length < rs.length ∧ σ' = [some (.ref p), some (.ref it), some (.ref R), some (.ref G)] ∧ SameB p H H'' ∧ Pen H'' p c (N + (zs.length - rs'.length)) ∧ rs'.length ≤ zs.length ∧ H'' R = some (.lst (rs'.map V.str)) ∧ H'' G = some (.lst (fs'.map V.str)) ∧ (fs' ++ rs').Perm zs,
      fun σ' H'' ⟨rs', fs', q1, q2, q3⟩ => ⟨rs'.length, q1, rs', fs', rfl, q2, q3⟩, ?_⟩
    refine ⟨_, rfl, .inl ⟨rfl, _, SqL.of (s3 _ _ hG)⟩, ?_⟩
    refine ⟨_, rfl, .inl ⟨rfl, _, SqL.of (s3 _ _ hR)⟩, ?_⟩
    refine ⟨_, rfl, _, rfl, R, _, rfl, .inl (SqL.of (s3 _ _ hR)), ?_⟩
    refine ⟨p, c, N + (zs.length - rs.length), _, rfl, by rw [List.length_map]; omega, by rw [List.length_map]; omega, Pen.same s3 hP, by omega, fun r H4 r0 r1 b4 hP4 => ?_⟩
    rw [List.length_map] at r1
    obtain ⟨i, rfl⟩ := Int.eq_ofNat_of_zero_le r0
    have hi : i < rs.length := by omega
    have hR4 : H4 R = some (.lst (rs.map V.str)) := b4 _ _ (Ne.symm pR) (s3 _ _ hR)
    have hG4 : H4 G = some (.lst (fs.map V.str)) := b4 _ _ (Ne.symm pG) (s3 _ _ hG)
    refine ⟨R, _, _, i, _, rfl, rfl, hR4, by omega, by omega, by rw [List.length_map]; exact seq_nat hi, by rw [List.getElem?_map, List.getElem?_eq_getElem hi]; rfl, ?_⟩
    refine ⟨G, _, _, rfl, rfl, by rw [upd_ne (Ne.symm RG)]; exact hG4, ?_, ?_⟩
    · have := pm.length_eq
      rw [List.length_append] at this
      rw [List.length_map, sizeLine_eq]
      omega
    · have pm2 : ((fs ++ [rs[i]]) ++ rs.eraseIdx i).Perm zs := by
        refine List.Perm.trans ?_ pm
        rw [List.append_assoc]
        exact List.Perm.append_left _ (erase_perm' rs i hi)
      have lr : (rs.eraseIdx i).length = rs.length - 1 := List.length_eraseIdx_of_lt hi
      refine ⟨rs.eraseIdx i, fs ++ [rs[i]], by omega, rfl, ?_, ?_, by omega, ?_, ?_, pm2⟩
      · refine fun a o n q => ?_
        have aR : a ≠ R := ne_of_none q nR
        have aG : a ≠ G := ne_of_none q nG'
        rw [upd_ne aG, upd_ne aR]
        exact (b.thn s3).trans b4 a o n q
      · have e : N + (zs.length - (rs.eraseIdx i).length) = N + (zs.length - rs.length) + 1 := by omega
        rw [e]
        obtain ⟨ys, hcl⟩ := Pen.cell hp
        have cR : c ≠ R := ne_of_none hcl nR
        have cG : c ≠ G := ne_of_none hcl nG'
        exact Pen.keep hP4 (by rw [upd_ne pG, upd_ne pR]) (by rw [upd_ne cG, upd_ne cR])
      · rw [upd_ne RG, upd_same, erase_map]
      · rw [upd_same, List.map_append]
        rfl
end
end GB
end
section
set_option Elab.async false
set_option linter.all false
set_option maxRecDepth 100000
set_option maxHeartbeats 4000000
namespace GP
open PySem PySem.Spec PyProof.Rows L2 FA FB FN TL
def sufs : List PySem.Str := ["", "o", "zzi"]
def steps : List Int := [1, 3, 5, 7, 9, 11, 15, 17, 19, 21, 23, 25]
def letters : PySem.Str := "abcdefghijklmnopqrstuvwxyz"
structure Stem (S : PySem.Str) : Prop where
  len : S.length ≤ 5
  low : ∀ c ∈ tl S, 97 ≤ c ∧ c ≤ 122
def IsW (S : PySem.Str) (fr st : Int) (k : Nat) (z : PySem.Str) : Prop := ∃ c suf, (tl letters)[((fr + st * k) % 26).toNat]? = some c ∧ suf ∈ sufs ∧ z = S ++ ((⟨#[c]⟩ : PySem.Str) ++ "a") ++ suf
structure GoodWs (ws : List PySem.Str) : Prop where
  len : ws.length = 12
  nd : ws.Nodup
  nm : ∀ z ∈ ws, nameV (.str z) = true
  sh : ∀ z ∈ ws, z.length ≤ 11
theorem letter_eq : ∀ i, i < 26 → (tl letters)[i]? = some (97 + i) := by decide +kernel
theorem tl_w {S suf : PySem.Str} {c : Nat} : tl (S ++ ((⟨#[c]⟩ : PySem.Str) ++ "a") ++ suf) = tl S ++ (c :: 97 :: tl suf) := by
  rw [tl_append, tl_append, tl_append]
  show tl S ++ ([c] ++ [97]) ++ tl suf = _
  simp
theorem suf_low : ∀ s ∈ sufs, ∀ c ∈ tl s, 97 ≤ c ∧ c ≤ 122 := by decide +kernel
theorem suf_len : ∀ s ∈ sufs, s.length ≤ 3 := by decide +kernel
theorem suf_last : ∀ s ∈ sufs, (97 :: tl s).getLast? = some 97 ∨ (97 :: tl s).getLast? = some 111 ∨ (97 :: tl s).getLast? = some 105 := by decide +kernel
def resS : List PySem.Str := ["all", "and", "count", "else", "every", "for", "if", "in", "join", "known", "not", "or", "pass", "some", "true", "while"]
theorem res_last : ∀ r ∈ resS, (tl r).getLast? ≠ some 97 ∧ (tl r).getLast? ≠ some 111 ∧ (tl r).getLast? ≠ some 105 := by decide +kernel
theorem in_res (z : PySem.Str) (h : ∀ r ∈ resS, z ≠ r) : inV (.str z) resV = false := by
  have e : resV = resS.map V.str := rfl
  rw [e]
  unfold inV
  rw [List.any_eq_false]
  intro v hv
  obtain ⟨r, hr, rfl⟩ := List.mem_map.mp hv
  have n := h r hr
  show ¬ (r == z) = true
  intro e
  exact n (eq_of_beq e).symm
theorem w_len {S : PySem.Str} {fr st : Int} {k : Nat} {z : PySem.Str} (hS : Stem S) (h : IsW S fr st k z) : 2 ≤ z.length ∧ z.length ≤ 10 := by
  obtain ⟨c, suf, hc, hs, rfl⟩ := h
  have h1 := hS.len
  have h2 := suf_len suf hs
  rw [len_tl] at h1 h2 ⊢
  rw [tl_w]
  simp only [List.length_append, List.length_cons]
  omega
theorem lt_mem {i c : Nat} (h : (tl letters)[i]? = some c) : 97 ≤ c ∧ c ≤ 122 := by
  have all : ∀ d ∈ tl letters, 97 ≤ d ∧ d ≤ 122 := by decide +kernel
  exact all c (List.mem_of_getElem? h)
theorem w_low {S : PySem.Str} {fr st : Int} {k : Nat} {z : PySem.Str} (hS : Stem S) (h : IsW S fr st k z) : ∀ c ∈ tl z, 97 ≤ c ∧ c ≤ 122 := by
  obtain ⟨c, suf, hc, hs, rfl⟩ := h
  intro d hd
  rw [tl_w, List.mem_append, List.mem_cons, List.mem_cons] at hd
  rcases hd with h | rfl | rfl | h
  · exact hS.low d h
  · exact lt_mem hc
  · omega
  · exact suf_low suf hs d h
theorem w_word {S : PySem.Str} {fr st : Int} {k : Nat} {z : PySem.Str} (hS : Stem S) (h : IsW S fr st k z) : wordV (.str z) = true := by
  have l := w_len hS h
  have w := w_low hS h
  show wordB z = true
  unfold wordB
  rw [decide_eq_true (show 1 ≤ z.length by omega), decide_eq_true (show z.length ≤ 12 by omega), Bool.true_and, Bool.true_and, List.all_eq_true]
  intro c hc
  have := w c hc
  rw [decide_eq_true this.1, decide_eq_true this.2]
  rfl
theorem w_name {S : PySem.Str} {fr st : Int} {k : Nat} {z : PySem.Str} (hS : Stem S) (h : IsW S fr st k z) : nameV (.str z) = true := by
  unfold nameV
  rw [w_word hS h, in_res z, Bool.not_false, Bool.and_self]
  intro r hr e
  obtain ⟨n1, n2, n3⟩ := res_last r hr
  obtain ⟨c, suf, hc, hs, rfl⟩ := h
  have t : tl r = tl S ++ [c] ++ (97 :: tl suf) := by
    rw [← e, tl_w]
    simp
  have g : (tl r).getLast? = (97 :: tl suf).getLast? := by
    rw [t, List.getLast?_append]
    cases q : (97 :: tl suf).getLast? with
    | none => simp at q
    | some _ => rfl
  rw [g] at n1 n2 n3
  rcases suf_last suf hs with h | h | h
  · exact n1 h
  · exact n2 h
  · exact n3 h
theorem w_ne {S : PySem.Str} {fr st : Int} {i j : Nat} {z y : PySem.Str} (hst : st ∈ steps) (f0 : 0 ≤ fr) (hi : i < 12) (hj : j < 12) (hz : IsW S fr st i z) (hy : IsW S fr st j y) (e : z = y) : i = j := by
  obtain ⟨c, suf, hc, hs, rfl⟩ := hz
  obtain ⟨d, suf', hd, hs', rfl⟩ := hy
  have t : tl S ++ (c :: 97 :: tl suf) = tl S ++ (d :: 97 :: tl suf') := by rw [← tl_w, ← tl_w, e]
  have t2 := List.append_cancel_left t
  have cd : c = d := by injection t2
  subst cd
  have b : ∀ x : Int, 0 ≤ x % 26 ∧ x % 26 < 26 := fun x => ⟨Int.emod_nonneg _ (by decide), Int.emod_lt_of_pos _ (by decide)⟩
  have bi := b (fr + st * i)
  have bj := b (fr + st * j)
  rw [letter_eq _ (by omega)] at hc hd
  have hc' := Option.some.inj hc
  have hd' := Option.some.inj hd
  have m : (fr + st * i) % 26 = (fr + st * j) % 26 := by omega
  simp only [steps, List.mem_cons, List.not_mem_nil, or_false] at hst
  rcases hst with rfl | rfl | rfl | rfl | rfl | rfl | rfl | rfl | rfl | rfl | rfl | rfl <;> omega
theorem good {S : PySem.Str} {fr st : Int} {ws : List PySem.Str} (hS : Stem S) (hst : st ∈ steps) (f0 : 0 ≤ fr) (hl : ws.length = 12) (h : ∀ k z, ws[k]? = some z → IsW S fr st k z) : GoodWs ws := by
  refine ⟨hl, ?_, fun z hz => ?_, fun z hz => ?_⟩
  · show List.Pairwise (· ≠ ·) ws
    rw [List.pairwise_iff_getElem]
    intro i j hi hj hij e
    have := w_ne hst f0 (by omega) (by omega) (h i _ (List.getElem?_eq_getElem hi)) (h j _ (List.getElem?_eq_getElem hj)) e
    omega
  · obtain ⟨k, hk⟩ := List.getElem?_of_mem hz
    exact w_name hS (h k z hk)
  · obtain ⟨k, hk⟩ := List.getElem?_of_mem hz
    have := w_len hS (h k z hk)
    omega
end GP
end
section
set_option Elab.async false
set_option linter.all false
set_option maxRecDepth 100000
set_option maxHeartbeats 4000000
namespace GC
open PySem PySem.Spec PyProof.Rows L2 FK FA FB FC FD FE FF FH FI FJ FL FM FN FO GA GB GP
theorem joinL_nil : ∀ ps : List (List Nat), TL.joinL [] ps = ps.flatten
  | [] => rfl
  | [p] => by simp [TL.joinL]
  | p :: q :: r => by
    show p ++ ([] ++ TL.joinL [] (q :: r)) = _
    rw [joinL_nil (q :: r)]
    simp
theorem stem_of {ss : List PySem.Str} (hl : ss.length ≤ 5) (h : ∀ s ∈ ss, ∃ g, s = ⟨#[g]⟩ ∧ 97 ≤ g ∧ g ≤ 122) : Stem (PySem.Txt.join "" ss) := by
  have t : TL.tl (PySem.Txt.join "" ss) = (ss.map TL.tl).flatten := by
    rw [TL.join_eq, TL.tl_join]
    exact joinL_nil _
  have both : ∀ l : List PySem.Str, (∀ s ∈ l, ∃ g, s = ⟨#[g]⟩ ∧ 97 ≤ g ∧ g ≤ 122) → (l.map TL.tl).flatten.length = l.length ∧ ∀ c ∈ (l.map TL.tl).flatten, 97 ≤ c ∧ c ≤ 122 := by
    intro l
    induction l with
    | nil => exact fun _ => ⟨rfl, by simp⟩
    | cons a r ih =>
      intro h
      obtain ⟨i1, i2⟩ := ih fun s hs => h s (List.mem_cons_of_mem _ hs)
      obtain ⟨g, rfl, g1, g2⟩ := h a (by simp)
      have e : ((((⟨#[g]⟩ : PySem.Str) :: r).map TL.tl).flatten) = g :: (r.map TL.tl).flatten := rfl
      rw [e]
      refine ⟨by rw [List.length_cons, List.length_cons, i1], fun c hc => ?_⟩
      rcases List.mem_cons.mp hc with rfl | hc
      · exact ⟨g1, g2⟩
      · exact i2 c hc
  obtain ⟨b1, b2⟩ := both ss h
  refine ⟨?_, ?_⟩
  · rw [TL.len_tl, t, b1]
    exact hl
  · rw [t]
    exact b2
def spWords : Sp := fun vs H Q _ => ∃ p c N, vs = [.ref p, .int 12] ∧ Pen H p c N ∧ N ≤ 10000 ∧
  ∀ H' F, ∀ ws : List PySem.Str, SameB p H H' → Pen H' p c (N + 30) → GoodWs ws → H F = none → H' F = some (.lst (ws.map V.str)) → Q (.ref F) H'
noncomputable abbrev sWords : Stmt := HK.stA TW 250
theorem scWords : FnScope ["_law_pen_here", "_law_many", "_law_letters", "_law_found", "_law_stem", "_law_k", "_law_front", "_law_step", "_law_own"] ["_law_pen_here", "_law_many"] (defScope sWords) := ⟨rfl, rfl, rfl, by decide +kernel, rfl, by decide +kernel, by decide +kernel⟩
section
variable {P : Program} {w : World} {K : PySem.W.Frag} {mg : PySem.Str → Option Value} {base : Heap} {f : Addr} {fd : FuncData}
theorem okWords (F : L2.Fun K "_law_words" "_law_words" sWords f fd) (B : Bt mg) (cD : Cal P w K mg base CX0 1 "_law_draw" spDraw) (cP : Cal P w K mg base CX0 2 "_law_pick" (spPick K)) : FnOk P w K mg base CX0 3 f fd ["_law_pen_here", "_law_many"] spWords := by
  refine F.ok scWords (fun vs H Q E h => by obtain ⟨p, c, N, rfl, _⟩ := h; rfl) (fun cdv A outer s H vs Q E hr h => ?_)
  refine ⟨_, pss_cons (ps_asg (pe_tup (pa_cons pe_str (pa_cons (pe_lst pa_nil) pa_nil))) (pg_tup (by rfl) (pgs_cons (pg_name (i := 2) scWords.nd rfl (.inr rfl)) (pgs_cons (pg_name (i := 3) scWords.nd rfl (.inl rfl)) pgs_nil))))
    (pss_cons (ps_set (i := 4) scWords.nd rfl (.inl rfl) (pe_join pe_str (pe_lc (own := [("_law_k", 5)]) (g := gName 5) (tt := tYes) rfl scWords.nd (pi_range1 (by rfl) (B _ (by decide)) (pa_cons (pe_c cD (hr.mono (by decide)) (by rfl) pass0 (pa_cons (pv 0) (pa_cons pe_int pa_nil))) pa_nil))
        (blkOk_by (own := [("_law_k", 5)]) (N := ["_law_pen_here", "_law_many", "_law_letters", "_law_found", "_law_stem", "_law_k", "_law_front", "_law_step", "_law_own"]) (sc := defScope sWords) (by decide +kernel)) (fun _ _ _ _ _ => pg_name (i := 5) scWords.nd rfl (Or.inl rfl)) (fun _ _ _ _ _ => pts_nil)
        (fun _ _ _ _ _ => pe_cT cP hr (by rfl) pass0 (pa_cons (pv 0) (pa_cons (pv 2) pa_nil))))))
    (pss_cons (ps_par (i := 6) (j := 7) rfl scWords.nd rfl rfl (by decide) rfl rfl (pa_cons (pe_c cD (hr.mono (by decide)) (by rfl) pass0 (pa_cons (pv 0) (pa_cons pe_int pa_nil)))
        (pa_cons (pe_c cP hr (by rfl) pass0 (pa_cons (pv 0) (pa_cons (pe_lst (pa_cons pe_int (pa_cons pe_int (pa_cons pe_int (pa_cons pe_int (pa_cons pe_int (pa_cons pe_int (pa_cons pe_int (pa_cons pe_int (pa_cons pe_int (pa_cons pe_int (pa_cons pe_int (pa_cons pe_int pa_nil))))))))))))) pa_nil))) pa_nil)) rfl)
    (pss_cons (ps_for PassesOwn.never rfl (pi_range1 (by rfl) (B _ (by decide)) (pa_cons (pv 1) pa_nil)) (pg_name (i := 5) scWords.nd rfl (.inl rfl))
      (pss_cons (ps_set (i := 8) scWords.nd rfl (.inl rfl) (pe_op op_add_str (pe_ix ix_str (pv 2) (pe_op op_mod (pe_callTy call_int1 (by rfl) (B _ (by decide)) (by decide +kernel) (pa_cons (pe_op op_add (pv 6) (pe_op op_mul (pv 7) (pv 5))) pa_nil)) pe_int) (fun _ _ => rfl))
          (pe_ix ix_list (pe_lst (pa_cons pe_str (pa_cons pe_str pa_nil))) (pe_op op_fdiv (pv 5) pe_int) (fun _ _ => rfl))))
      (pss_one (ps_expr (pe_bm PySem.F.plainAttrs_list PySem.F.slot_list_append PySem.F.type_list_append mt_append (pv 3) (pa_cons
        (pe_op op_add_str (pe_op op_add_str (pv 4) (pv 8)) (pe_ix ix_list (pe_lst (pa_cons pe_str (pa_cons pe_str (pa_cons pe_str pa_nil)))) (pe_c cD (hr.mono (by decide)) (by rfl) pass0 (pa_cons (pv 0) (pa_cons pe_int pa_nil))) (fun _ _ => rfl))) pa_nil))))))
    (pss_one (ps_ret (pv 3)))))), ?_⟩
  obtain ⟨p, c, N, rfl, hp, hN, k⟩ := h
  obtain ⟨kvs, hk⟩ := Pen.dk hp
  obtain ⟨ys, hcl⟩ := Pen.cell hp
  refine ⟨by show 0 ≤ sizeLine; decide, fun G nG => ?_⟩
  have pG : p ≠ G := ne_of_none hk nG
  have cG : c ≠ G := ne_of_none hcl nG
  have s1 := same_new (o := .lst []) nG
  refine ⟨by show 2 ≤ sizeLine; decide, fun T nT => ?_⟩
  have s2 := same_new (o := .tup [.str letters, .ref G]) nT
  refine ⟨T, _, rfl, .inl (.inl upd_same), rfl, _, _, rfl, _, _, rfl, rfl, ?_⟩
  have s12 := s1.trans s2
  have hG2 : (upd (upd H G (.lst [])) T (.tup [.str letters, .ref G])) G = some (.lst []) := s2 _ _ upd_same
  refine ⟨⟨_, rfl⟩, _, rfl, p, c, N, 6, rfl, by decide, by decide, Pen.same s12 hp, by omega, fun n H3 n0 n1 b3 hP3 => ?_⟩
  refine ⟨n, rfl, by omega, by omega, fun D nD => ?_⟩
  have b3' : SameB p H H3 := (SameB.of s12).trans b3
  have hG3 : H3 G = some (.lst []) := b3 _ _ (Ne.symm pG) hG2
  have nD0 : D ≠ G := Ne.symm (ne_of_none hG3 nD)
  have pD : p ≠ D := by
    obtain ⟨kv3, e3⟩ := Pen.dk hP3
    exact ne_of_none e3 nD
  have cD' : c ≠ D := by
    obtain ⟨y3, e3⟩ := Pen.cell hP3
    exact ne_of_none e3 nD
  refine lc_range (lo := 0) (n := n.toNat) (fun i H' => ∃ ss : List PySem.Str, ss.length = i ∧ (∀ s ∈ ss, ∃ g, s = ⟨#[g]⟩ ∧ 97 ≤ g ∧ g ≤ 122) ∧ H' D = some (.lst (ss.map V.str)) ∧ SameB p H3 H' ∧ Pen H' p c (N + 1 + i))
    ⟨[], rfl, by simp, upd_same, SameB.of (same_new nD), Pen.keep hP3 (upd_ne pD) (upd_ne cD')⟩ (fun i H' hi h => ?_) (fun H4 h => ?_)
  · obtain ⟨ss, e, hs, hD, b, hP⟩ := h
    refine ⟨rfl, ?_⟩
    dsimp only [tYes]
    rw [if_pos rfl]
    refine ⟨_, rfl, _, rfl, p, c, N + 1 + i, _, rfl, hP, by omega, .inr ⟨letters, rfl, (by decide), (by decide), fun g hg H5 b5 hP5 => ?_⟩⟩
    have gl : 97 ≤ g ∧ g ≤ 122 := by
      have all : ∀ d ∈ TL.tl letters, 97 ≤ d ∧ d ≤ 122 := by decide +kernel
      exact all g hg
    refine ⟨_, b5 _ _ (Ne.symm pD) hD, ?_, ss ++ [⟨#[g]⟩], ?_, ?_, ?_, ?_, ?_⟩
    · rw [List.length_map, e, sizeLine_eq]
      omega
    · rw [List.length_append, e]
      rfl
    · intro s hs'
      rcases List.mem_append.mp hs' with h | h
      · exact hs s h
      · exact ⟨g, List.mem_singleton.mp h, gl⟩
    · rw [upd_same, List.map_append]
      rfl
    · exact fun a o n' q => by
        rw [upd_ne (ne_of_none q nD)]
        exact (b.trans b5) a o n' q
    · exact Pen.keep hP5 (upd_ne pD) (upd_ne cD')
  · obtain ⟨ss, e, hs, hD, b, hP⟩ := h
    have l5 : ss.length ≤ 5 := by omega
    have hS := stem_of l5 hs
    have s1s : ∀ s ∈ ss, s.length ≤ 30 := fun s h => by
      obtain ⟨g, rfl, _⟩ := hs s h
      show 1 ≤ 30
      omega
    refine ⟨_, D, ss, rfl, rfl, .inl (SqL.of hD), join_room (y := "") (by decide) (by omega) s1s, ?_⟩
    generalize hSt : PySem.Txt.join "" ss = S at hS
    have b4 : SameB p H H4 := b3'.trans b
    have hG4 : H4 G = some (.lst []) := b _ _ (Ne.symm pG) hG3
    have hP4 : Pen H4 p c (N + 7) := Pen.mono hP (by omega)
    refine ⟨_, rfl, p, c, N + 7, 26, rfl, by decide, by decide, hP4, by omega, fun fr H5 f0 f1 b5 hP5 => ?_⟩
    refine ⟨_, rfl, (by show 12 ≤ sizeLine; decide), fun O nO => ?_⟩
    have s5 := same_new (o := .lst (steps.map V.int)) nO
    refine ⟨p, c, N + 8, _, rfl, Pen.same s5 hP5, by omega, .inl ⟨O, steps.map V.int, rfl, SqL.of upd_same, (by decide), (by decide), fun v hv H6 b6 hP6 => ?_⟩⟩
    obtain ⟨st, hst, rfl⟩ := List.mem_map.mp hv
    refine ⟨_, _, rfl, ?_⟩
    have b6' : SameB p H H6 := ((b4.trans b5).thn s5).trans b6
    have hG6 : H6 G = some (.lst []) := b6 _ _ (Ne.symm pG) (s5 _ _ (b5 _ _ (Ne.symm pG) hG4))
    have stb : 1 ≤ st ∧ st ≤ 25 := by
      have all : ∀ x ∈ steps, 1 ≤ x ∧ x ≤ 25 := by decide
      exact all st hst
    have hSl := hS.len
    refine ⟨_, rfl, 12, rfl, by decide, by decide, ?_⟩
    refine for_range (lo := 0) (n := 12) (fun i σ H' => ∃ (ws : List PySem.Str) (kk own : Option V), σ = [some (.ref p), some (.int 12), some (.str letters), some (.ref G), some (.str S), kk, some (.int fr), some (.int st), own] ∧ ws.length = i ∧ (∀ k z, ws[k]? = some z → IsW S fr st k z) ∧ H' G = some (.lst (ws.map V.str)) ∧ SameB p H H' ∧ Pen H' p c (N + 9 + i))
      ⟨[], none, none, by rw [← hSt]; rfl, rfl, by simp, hG6, b6', hP6⟩ (fun i σ H' hi h => ?_) (fun σ H' h => ?_)
    · obtain ⟨ws, kk, own, rfl, hl, hw, hG7, b7, hP7⟩ := h
      have e0 : (0 : Int) + i = i := by omega
      rw [e0]
      have m0 : 0 ≤ (fr + st * i) % 26 := Int.emod_nonneg _ (by decide)
      have m1 : (fr + st * i) % 26 < 26 := Int.emod_lt_of_pos _ (by decide)
      obtain ⟨j, hj⟩ := Int.eq_ofNat_of_zero_le m0
      have hj26 : j < 26 := by omega
      have hlet : (TL.tl letters)[j]? = some (97 + j) := letter_eq j hj26
      have hk0 : (i : Int) / 26 = ((0 : Nat) : Int) := by omega
      refine ⟨_, rfl, _, rfl, _, rfl, _, rfl, _, _, rfl, rfl, .inl ⟨by omega, by omega⟩, _, _, rfl, rfl, .inl ⟨_, rfl, _, _, rfl, rfl, (by show (0 : Int) < 26; decide), ?_⟩⟩
      refine ⟨letters, _, 97 + j, rfl, rfl, (by decide), ?_, ?_⟩
      · show atI _ ((fr + st * i) % 26) = _
        rw [hj]
        exact atI_nat hlet
      refine ⟨(by show 2 ≤ sizeLine; decide), fun l nl => ?_⟩
      have s7 := same_new (o := .lst [.str "a", .str "ea"]) nl
      refine ⟨_, rfl, _, _, rfl, rfl, ⟨by decide, by decide⟩, l, _, _, .str "a", rfl, rfl, SqL.of upd_same, ?_, ?_⟩
      · show atI _ ((i : Int) / 26) = _
        rw [hk0]
        rfl
      refine ⟨_, _, rfl, rfl, (by show 1 + 1 ≤ sizeLine; decide), ?_⟩
      refine ⟨_, rfl, .inl ⟨rfl, _, SqL.of (s7 _ _ hG7)⟩, ?_⟩
      refine ⟨_, rfl, _, rfl, _, _, rfl, rfl, ?_, ?_⟩
      · rw [sizeLine_eq]
        show S.length + 2 ≤ _
        omega
      refine ⟨(by show 3 ≤ sizeLine; decide), fun l2 nl2 => ?_⟩
      have s8 := same_new (o := .lst [.str "", .str "o", .str "zzi"]) nl2
      refine ⟨_, rfl, p, c, N + 9 + i, 3, rfl, by decide, by decide, Pen.same (s7.trans s8) hP7, by omega, fun r H9 r0 r1 b9 hP9 => ?_⟩
      obtain ⟨q, rfl⟩ := Int.eq_ofNat_of_zero_le r0
      have hq3 : q < 3 := by omega
      have pl2 : l2 ≠ p := by
        obtain ⟨kv, ek⟩ := Pen.dk (Pen.same s7 hP7)
        exact Ne.symm (ne_of_none ek nl2)
      obtain ⟨suf, hsuf, hat⟩ : ∃ suf ∈ sufs, ([.str "", .str "o", .str "zzi"] : List V)[q]? = some (.str suf) := by
        match q, hq3 with
        | 0, _ => exact ⟨"", by simp [sufs], rfl⟩
        | 1, _ => exact ⟨"o", by simp [sufs], rfl⟩
        | 2, _ => exact ⟨"zzi", by simp [sufs], rfl⟩
      refine ⟨l2, _, _, .str suf, rfl, rfl, SqL.of (b9 _ _ pl2 upd_same), atI_nat hat, ?_⟩
      have hsl := suf_len suf hsuf
      refine ⟨_, _, rfl, rfl, ?_, ?_⟩
      · have e3 := len_app S ((⟨#[97 + j]⟩ : PySem.Str) ++ "a")
        have e4 : ((⟨#[97 + j]⟩ : PySem.Str) ++ "a").length = 2 := rfl
        rw [sizeLine_eq]
        show (S ++ ((⟨#[97 + j]⟩ : PySem.Str) ++ "a")).length + suf.length ≤ _
        omega
      refine ⟨G, _, _, rfl, rfl, b9 _ _ (Ne.symm pG) (s8 _ _ (s7 _ _ hG7)), by rw [List.length_map, hl, sizeLine_eq]; omega, ?_⟩
      refine ⟨ws ++ [S ++ ((⟨#[97 + j]⟩ : PySem.Str) ++ "a") ++ suf], _, _, rfl, by rw [List.length_append, hl]; rfl, ?_, by rw [upd_same, List.map_append]; rfl, ?_, Pen.keep hP9 (upd_ne pG) (upd_ne cG)⟩
      · intro k' z hz
        rw [List.getElem?_append] at hz
        split at hz
        · exact hw k' z hz
        · rename_i hge
          have : k' - ws.length = 0 := by
            cases hkk : k' - ws.length with
            | zero => rfl
            | succ m => rw [hkk] at hz; simp at hz
          rw [this] at hz
          have ez : S ++ ((⟨#[97 + j]⟩ : PySem.Str) ++ "a") ++ suf = z := by simpa using hz
          have ek : k' = i := by omega
          subst ek
          refine ⟨97 + j, suf, ?_, hsuf, ez.symm⟩
          rw [hj]
          exact hlet
      · exact fun a o n' q' => by
          rw [upd_ne (ne_of_none q' nG)]
          exact ((b7.thn (s7.trans s8)).trans b9) a o n' q'
    · obtain ⟨ws, kk, own, rfl, hl, hw, hG7, b7, hP7⟩ := h
      exact ⟨_, rfl, k _ G ws b7 (Pen.mono hP7 (by omega)) (good hS hst f0 hl hw) nG hG7⟩
end
end GC
end
section
set_option Elab.async false
set_option linter.all false
set_option maxRecDepth 100000
set_option maxHeartbeats 4000000
namespace GD
open PySem PySem.Spec PyProof.Rows L2 FK FA FB FC FD FE FF FH FI FJ FL FM FN FO GA GB GP GC
def Own (P : Program) (w : World) (K : PySem.W.Frag) (mg : PySem.Str → Option Value) (base : Heap) (CX : CXT) (k : Nat) (C : Addr) (m : PySem.Str) (sp : Sp) : Prop :=
  ∃ f fd ps, FnOk P w K mg base CX k f fd ps sp ∧ Binds K fd ps [] ∧ PySem.W.findIn K (.ref C) m = some (some (.ref f)) ∧ PySem.W.isFn K (.ref f) = true ∧ PySem.W.fnIn K f = true
section
variable {X : Cx} {CX : CXT} {k : Nat} {C : Addr} {sp : Sp} {E : L2.St → XK} {x : PySem.Str} {p pos : Pos} {e a b : Expr} {es : List Expr} {t : TA} {ta tb : TE}
theorem pe_mkS (c : CalC X.prog X.w X.K X.mg X.base CX k x C sp) (hr : Room (k + 1) X.A) (hg : Gl X x) (hx : ∀ σ, PassesAt CX X σ (E σ)) (ha : PA X (e :: es) t) (hdb : (x == ("__debug__" : PySem.Str)) = false := by decide)
    (he : starEach (e :: es) X.env = (false, eval e X.env) :: starEach es X.env := by rfl) (hpl : (backTo pos (starEach es X.env)).any (·.1) = false := by rfl) : PE X (.Call (.Name x p) (e :: es) [] pos) (fun σ H Q => StX.tMakeR C sp (E σ) t σ H Q) := by
  obtain ⟨f, F, M, hm⟩ := c
  refine ⟨fun pins s σ H Q I h => ?_⟩
  refine wpAny_Call_Name_kw (ld_glob I hg hm ?_ hdb)
  refine PySem.W.callWith_K (h₀ := X.base) I.ok.mod.kin M.kp (thn (ha.run pos pins s σ H _ I h) fun us s1 ⟨vs, H1, I1, r, q⟩ => ⟨I1.kIn, ?_⟩) he hpl
  have hq := q (s1.heap.objs.size + 1) s1.heap.objs.size (I1.hok.fresh (Nat.le_succ _)) (I1.hok.fresh (Nat.le_refl _)) (Nat.ne_of_lt (Nat.lt_succ_self _))
  have I2 := Inv.made (C := C) I1
  have r2 : Vals (V.ref (s1.heap.objs.size + 1) :: vs) (Value.ref (s1.heap.objs.size + 1) :: us) := .cons rfl r
  refine wpAny_call (make_map (f := f) I1.kIn M.makes M.init (beq_iff_eq.mp M.fn) (codeAny_mono (F _ X.stack _ _ (Value.ref (s1.heap.objs.size + 1) :: us) _ _ (E σ) (hr.make C us []) (I2.env0.make C us []) r2 hq) fun r s' hq' => ?_))
  cases r with
  | error e => exact hx σ pins _ _ e s' I2 hq'
  | ok fl =>
    cases fl with
    | ret u =>
      obtain ⟨v, H', I3, rv, ev, q3⟩ := I2.after hq'
      subst ev
      exact ⟨rv, ⟨V.ref (s1.heap.objs.size + 1), H', I3, rfl, q3⟩⟩
    | next => exact False.elim hq'
    | brk => exact False.elim hq'
    | cont => exact False.elim hq'
theorem pe_ixS (ha : PE X a ta) (hb : PE X b tb) (c : Own X.prog X.w X.K X.mg X.base CX k C "__getitem__" sp) (hr : Room (k + 1) X.A) (hx : ∀ σ, PassesAt CX X σ (E σ))
    (hsl : ∀ v u, subscripted b true v u = runValue (.builtin "lifetime.subscript" ⟨[v, u], []⟩) := by intro _ _; rfl) : PE X (.Subscript a b pos) (fun σ H Q => SO.tIxO C sp [] (E σ) ta tb σ H Q) := by
  obtain ⟨f, fd, ps, F, hbd, hs, hfn, hf⟩ := c
  refine ⟨fun pins s σ H Q I h => ?_⟩
  refine Subscript_ (thn (ha.run pins s σ H _ I h) fun u s1 ⟨x, H1, I1, rx, q1⟩ => thn (hb.run pins s1 σ H1 _ I1 q1) fun v s2 ⟨y, H2, I2, ry, p, dx, fs, ex, ep, q⟩ => ?_)
  subst ex
  obtain rfl : u = Value.ref p := rx
  obtain ⟨ox, od, J⟩ := SO.inst_at I2 ep
  obtain ⟨m, hF⟩ := I2.fr
  refine PySem.W.sub_K hF I2.ok.mod.kin J hs hf hfn ?_ (hsl _ _)
  have r2 : Vals ([V.ref p, y] ++ []) ([Value.ref p, v] ++ []) := .cons rfl (.cons ry .nil)
  have hl : ([Value.ref p, v] ++ []).length = ps.length := by rw [← r2.length]; exact F.len _ _ _ _ q
  refine wpAny_call (codeAny_mono (F.run X.A.in1 X.stack s2 H2 ⟨[.ref p, v], []⟩ ([.ref p, v] ++ []) ([.ref p, y] ++ []) Q (E σ) hr.in1 I2.env0.in1 (hbd s2 [.ref p, v] I2.kIn hl) r2 q) fun r s' hq => ?_)
  cases r with
  | error e => exact hx σ pins H2 s2 e s' I2 hq
  | ok fl =>
    cases fl with
    | ret u => exact I2.after hq
    | next => exact False.elim hq
    | brk => exact False.elim hq
    | cont => exact False.elim hq
end
def spErr (K : PySem.W.Frag) : Sp := fun vs H Q _ => ∃ kv r, vs = [kv] ∧ Kn K H kv r ∧
  (r = none → ∀ H' q, Same H H' → SqT K H' q [] → Q (.ref q) H') ∧ (∀ xs, r = some xs → ∀ H', Same H H' → Q (.str "none") H')
noncomputable abbrev sErr : Stmt := HK.stA TW 251
theorem scErr : FnScope ["_law_known", "_law_found", "e"] ["_law_known"] (defScope sErr) := ⟨rfl, rfl, rfl, by decide +kernel, rfl, by decide +kernel, by decide +kernel⟩
def spItem (K : PySem.W.Frag) (CW CS : Addr) : Sp := fun vs H Q _ => ∃ a z ks, vs = [.ref a, .str z] ∧ z.length ≤ 100000 ∧ Wld K CW CS H a ks ∧ ks.all flatV = true ∧ ks.length ≤ 100 ∧
  ((nameV (.str z) = true ∧ inV (.str z) ks = false ∧ ∀ H' l, Same H H' → H' l = some (.lst [.str "none"]) → Q (.ref l) H') ∨
   ((nameV (.str z) = true → inV (.str z) ks = true) ∧ ∀ H' l, Same H H' → H' l = some (.lst [.str z]) → Q (.ref l) H'))
noncomputable abbrev sItem : Stmt := HK.stA TW 252
theorem scItem : FnScope ["_law_world", "_law_name", "_law_found", "_law_family", "e"] ["_law_world", "_law_name"] (defScope sItem) := ⟨rfl, rfl, rfl, by decide +kernel, rfl, by decide +kernel, by decide +kernel⟩
section
variable {P : Program} {w : World} {K : PySem.W.Frag} {mg : PySem.Str → Option Value} {base : Heap} {f CB fB CN fN CE CW CS CF eE : Addr} {fd : FuncData}
theorem okErr (F : L2.Fun K "_law_error" "_law_error" sErr f fd) (SB : PySem.EXS.SupTxt P K mg "BadProgram" "place" CB fB) (gE : mg "EverynameError" = some (.ref CE)) (eB : PySem.W.exmOne K (.ref CB) (.ref CB) = some true)
    (cW : CalC P w K mg base (L2.CX P w) 5 "World" CW (spWI K CW CS CB)) : FnOk P w K mg base CX0 7 f fd ["_law_known"] (spErr K) := by
  refine F.ok scErr (fun vs H Q E h => by obtain ⟨kv, r, rfl, _⟩ := h; rfl) (fun cdv A outer s H vs Q E hr h => ?_)
  refine ⟨_, pss_cons (ps_set (i := 1) scErr.nd rfl (.inl rfl) pe_str)
    (pss_cons (TN.ps_try_n (l := [(.ref CB, some 2, _), (.ref CE, none, _)]) rfl rfl scErr.nd takes0 (fun W pn xe tk _ => pss_one (ps_expr (pe_mkS cW hr (by rfl) (fun σ => passAt tk σ) (pa_cons (pv 0) pa_nil))))
      (.cons (.named rfl rfl ⟨by rfl, by decide, .inl SB.gC⟩ (fun a oe cls d pn hz hf => pss_one (ps_set (i := 1) scErr.nd rfl (.inl rfl) (EXS.pe_by1 SB hz hf (pv 2)))))
        (.cons (.bare ⟨by rfl, by decide, .inl gE⟩ (fun a oe cls d pn hz hf => pss_never)) .nil)))
    (pss_one (ps_ret (pv 1)))), ?_⟩
  obtain ⟨kv, r, rfl, hk, kE, kQ⟩ := h
  refine ⟨_, rfl, fun x dx nx ndx ne => ?_⟩
  have s1 := same_made (o := .ins CW dx []) nx ndx ne
  refine ⟨x, dx, kv, r, rfl, upd_same, Kn.same s1 hk, fun hr0 H' d q s2 nd ed eq => ?_, fun xs hr0 H1 b1 hw => ⟨rfl, ?_⟩⟩
  · refine ⟨true, eB, fun _ a ha => ?_, fun q => Bool.noConfusion q⟩
    refine ⟨_, rfl, rfl, rfl, d, _, rfl, ed, ?_⟩
    exact ⟨_, rfl, kE hr0 H' q (s1.trans s2) eq⟩
  · exact ⟨_, rfl, kQ xs hr0 H1 (same_but s1 nx b1)⟩
theorem okItem (F : L2.Fun K "_law_item_error" "_law_item_error" sItem f fd) (SN : PySem.EXS.SupTxt P K mg "BadName" "name" CN fN) (gE : mg "EverynameError" = some (.ref CE)) (eN : PySem.W.exmOne K (.ref CN) (.ref CN) = some true)
    (cG : Own P w K mg base (L2.CX P w) 4 CW "__getitem__" (spGI K CW CS CF CN eE)) : FnOk P w K mg base CX0 6 f fd ["_law_world", "_law_name"] (spItem K CW CS) := by
  refine F.ok scItem (fun vs H Q E h => by obtain ⟨a, z, ks, rfl, _⟩ := h; rfl) (fun cdv A outer s H vs Q E hr h => ?_)
  refine ⟨_, pss_cons (ps_set (i := 2) scItem.nd rfl (.inl rfl) (pe_lst (pa_cons pe_str pa_nil)))
    (pss_cons (TN.ps_try_n (l := [(.ref CN, some 4, _), (.ref CE, none, _)]) rfl rfl scItem.nd takes0 (fun W pn xe tk _ => pss_one (ps_set (i := 3) scItem.nd rfl (.inl rfl) (pe_ixS (pv 0) (pv 1) cG hr (fun σ => passAt tk σ))))
      (.cons (.named rfl rfl ⟨by rfl, by decide, .inl SN.gC⟩ (fun a oe cls d pn hz hf => pss_one (ps_set (i := 2) scItem.nd rfl (.inl rfl) (pe_lst (pa_cons (EXS.pe_by1 SN hz hf (pv 4)) pa_nil)))))
        (.cons (.bare ⟨by rfl, by decide, .inl gE⟩ (fun a oe cls d pn hz hf => pss_never)) .nil)))
    (pss_one (ps_ret (pv 2)))), ?_⟩
  obtain ⟨a, z, ks, rfl, hz, hw, fl, hn, h⟩ := h
  refine ⟨by show 1 ≤ sizeLine; decide, fun l nl => ?_⟩
  have s1 := same_new (o := .lst [.str "none"]) nl
  obtain ⟨dx, so, st, w0, w1, w2⟩ := id hw
  refine ⟨_, rfl, _, rfl, a, dx, _, rfl, s1 _ _ w0, ?_⟩
  refine ⟨a, z, ks, rfl, hz, Wld.same s1 hw, fl, hn, ?_⟩
  rcases h with ⟨h1, h2, k⟩ | ⟨h1, k⟩
  · refine .inl ⟨h1, h2, fun H' p s2 hF => ?_⟩
    exact ⟨_, rfl, k H' l (s1.trans s2) (s2 _ _ upd_same)⟩
  · refine .inr ⟨h1, fun H' d s2 nd ed => ?_⟩
    refine ⟨true, eN, fun _ a ha => ?_, fun q => Bool.noConfusion q⟩
    refine ⟨_, rfl, rfl, rfl, d, _, rfl, ed, ?_⟩
    refine ⟨by show 1 ≤ sizeLine; decide, fun l2 nl2 => ?_⟩
    exact ⟨_, rfl, k _ l2 ((s1.trans s2).trans (same_new nl2)) upd_same⟩
end
end GD
end
section
set_option Elab.async false
set_option linter.all false
set_option maxRecDepth 100000
set_option maxHeartbeats 4000000
namespace GQ
open PySem PySem.Spec PyProof.Rows L2
theorem ris : ∀ (p : PySem.Str) (l : List PySem.Str), risingS p l = true → (p :: l).Pairwise (fun a b => a.cps.toList ≤ b.cps.toList)
  | p, [], _ => by simp
  | p, x :: r, h => by
    have h' : (!Spec.ltCps x.cps.toList p.cps.toList && risingS x r) = true := h
    rw [Bool.and_eq_true, Bool.not_eq_true', ltCps_eq] at h'
    have ih := ris x r h'.2
    have px : p.cps.toList ≤ x.cps.toList := List.not_lt.mp (of_decide_eq_false h'.1)
    rw [List.pairwise_cons]
    refine ⟨fun y hy => ?_, ih⟩
    rcases List.mem_cons.mp hy with rfl | hy
    · exact px
    · exact List.le_trans px ((List.pairwise_cons.mp ih).1 y hy)
theorem sorted_pw {l : List PySem.Str} (h : sortedS l = true) : l.Pairwise (fun a b => a.cps.toList ≤ b.cps.toList) := by
  cases l with
  | nil => simp
  | cons x r => exact ris x r h
theorem sorted_uniq {l m zs : List PySem.Str} (hl : l.Perm zs) (hm : m.Perm zs) (sl : sortedS l = true) (sm : sortedS m = true) : l = m :=
  List.Perm.eq_of_pairwise (fun a b _ _ h1 h2 => Str.ext' (Array.toList_inj.mp (List.le_antisymm h1 h2))) (sorted_pw sl) (sorted_pw sm) (hl.trans hm.symm)
end GQ
end
section
set_option Elab.async false
set_option linter.all false
set_option maxRecDepth 100000
set_option maxHeartbeats 4000000
namespace GE
open PySem PySem.Spec PyProof.Rows L2 FK FA FB FC FD FE FF FH FI FJ FL FM FN FO GA GB GP GC GD
def CalO (P : Program) (w : World) (K : PySem.W.Frag) (mg : PySem.Str → Option Value) (base : Heap) (CX : CXT) (k : Nat) (C : Addr) (sp : Sp) : Prop :=
  ∃ g, StX.CallO K C g ∧ L2.FnR P w K mg base CX k g sp
section
variable {X : Cx} {CX : CXT} {k : Nat} {C : Addr} {sp : Sp} {E : XK} {x : PySem.Str} {p pos : Pos} {e a b fe : Expr} {es : List Expr} {t : TA} {ta tb tf : TE}
theorem op_inC (c : Own X.prog X.w X.K X.mg X.base CX k C "__contains__" sp) (hr : Room k X.A) (hx : Passes CX X E) : OpR X (compareOp .In) (SO.rInO C sp [] E id) := by
  obtain ⟨f, fd, ps, F, hb, hs, hfn, hf⟩ := c
  exact SO.op_inO hs hfn F hr hb .nil hx
theorem call_lenC (c : Own X.prog X.w X.K X.mg X.base CX k C "__len__" sp) (hr : Room (k + 1) X.A) (hx : Passes CX X E) : CallR X (.builtin "len") (fun xs H Q => ∃ p dx fs, xs = [.ref p] ∧ H p = some (.ins C dx fs) ∧ sp ([.ref p] ++ []) H (fun v H' => ∃ n : Int, v = .int n ∧ 0 ≤ n ∧ n < 2 ^ 63 ∧ Q (.int n) H') E) := by
  obtain ⟨f, fd, ps, F, hb, hs, hfn, hf⟩ := c
  exact SO.call_lenO hs hfn F hr hb .nil hx
theorem op_eqC (c : Own X.prog X.w X.K X.mg X.base CX k C "__eq__" sp) (hn : PySem.W.notFirst X.K C (.ref C) = true) (hr : Room k X.A) (hx : Passes CX X E) : OpR X (compareOp .Eq) (SO.rEqO C sp [] E fun y H => ∃ p' dx' fs', y = .ref p' ∧ H p' = some (.ins C dx' fs')) := by
  obtain ⟨f, fd, ps, F, hb, hs, hfn, hf⟩ := c
  exact SO.op_eqO hs hfn hn F hr hb .nil hx
theorem op_eqTC (c : Own X.prog X.w X.K X.mg X.base CX k C "__eq__" sp) (hn : PySem.W.notFirst X.K C (.type "tuple") = true) (hr : Room k X.A) (hx : Passes CX X E) : OpR X (compareOp .Eq) (SO.rEqO C sp [] E fun y H => ∃ p' ys, y = .ref p' ∧ SqT X.K H p' ys) := by
  obtain ⟨f, fd, ps, F, hb, hs, hfn, hf⟩ := c
  exact SO.op_eqT hs hfn hn F hr hb .nil hx
theorem pe_ixC (ha : PE X a ta) (hb : PE X b tb) (c : Own X.prog X.w X.K X.mg X.base CX k C "__getitem__" sp) (hr : Room (k + 1) X.A) (hx : Passes CX X E)
    (hsl : ∀ v u, subscripted b true v u = runValue (.builtin "lifetime.subscript" ⟨[v, u], []⟩) := by intro _ _; rfl) : PE X (.Subscript a b pos) (SO.tIxO C sp [] E ta tb) := by
  obtain ⟨f, fd, ps, F, hbd, hs, hfn, hf⟩ := c
  exact SO.pe_ixO ha hb hs hf hfn F hr hbd .nil hx hsl
theorem pe_callC (hf : PE X fe tf) (c : CalO X.prog X.w X.K X.mg X.base CX k C sp) (hr : Room k X.A) (hx : Passes CX X E) (ha : PA X (e :: es) t)
    (ht : eval (.Call fe (e :: es) [] pos) X.env = (do callWith pos (← eval fe X.env) [] (backTo pos (starEach (e :: es) X.env)) (backToKw pos (keywordEach [] X.env))) := by rfl)
    (he : starEach (e :: es) X.env = (false, eval e X.env) :: starEach es X.env := by rfl) (hpl : (backTo pos (starEach es X.env)).any (·.1) = false := by rfl) : PE X (.Call fe (e :: es) [] pos) (StX.tCallO X C sp E tf t) := by
  obtain ⟨g, c, F⟩ := c
  exact StX.pe_callO hf c F hr hx ha ht he hpl
end
theorem slA_of {K : PySem.W.Frag} {H : Hp} {Q : VK} {a : Addr} {xs : List V} {lo hi : Option Int} (h : SqT K H a xs) (k : ∀ H' q, Same H H' → SqT K H' q (cutV xs lo hi) → Q (.ref q) H') :
    rSlA K (.ref a) lo hi H Q := by
  refine ⟨a, xs, rfl, h, fun e => k H a (Same.refl _) ?_, fun _ p hp => k _ p (same_new hp) (.inl (.inl upd_same))⟩
  have : cutV xs lo hi = xs := by
    unfold cutV
    rw [e.1, e.2]
    simp
  rw [this]
  exact h
theorem noPart {σ : L2.St} {H : Hp} {Q : Option Int → Hp → Prop} (h : Q none H) : tNoPart σ H Q := h
theorem catA_of {K : PySem.W.Frag} {H : Hp} {Q : VK} {a b : Addr} {xs ys : List V} (h1 : SqT K H a xs) (h2 : SqT K H b ys) (hl : xs.length + ys.length ≤ sizeLine) (k : ∀ H' q, Same H H' → SqT K H' q (xs ++ ys) → Q (.ref q) H') : rCatA K (.ref a) (.ref b) H Q := by
  refine ⟨a, b, xs, ys, rfl, rfl, h1, h2, hl, fun e => k H b (Same.refl _) ?_, fun _ e => k H a (Same.refl _) ?_, fun _ _ p hp => k _ p (same_new hp) (.inl (.inl upd_same))⟩
  · rw [e]
    exact h2
  · rw [e, List.append_nil]
    exact h1
structure LawT (P : Program) (w : World) (K : PySem.W.Frag) (mg : PySem.Str → Option Value) (base : Heap) (CW CS CF CB CN eE : Addr) : Prop where
  B : Bt mg
  pen : Cal P w K mg base CX0 1 "_law_pen" (spPen K)
  words : Cal P w K mg base CX0 3 "_law_words" spWords
  shuf : Cal P w K mg base CX0 2 "_law_shuffled" (spShuf K)
  draw : Cal P w K mg base CX0 1 "_law_draw" spDraw
  pick : Cal P w K mg base CX0 2 "_law_pick" (spPick K)
  err : Cal P w K mg base CX0 7 "_law_error" (spErr K)
  item : Cal P w K mg base CX0 6 "_law_item_error" (spItem K CW CS)
  world : CalC P w K mg base (L2.CX P w) 5 "World" CW (spWI K CW CS CB)
  clW : Cls K CW
  clF : Cls K CF
  knF : NoAttr K CF "known"
  names : CalP P w K mg base CX0 1 CW "names" (spNames K CW CS)
  page : CalP P w K mg base CX0 4 CW "page" (spPage K CW CS)
  allw : CalP P w K mg base CX0 1 CW "allowed" (spAll K CW CS)
  vals : CalM P w K mg base CX0 2 CW "values_at" (spVs K CW CS)
  len : Own P w K mg base CX0 1 CW "__len__" (spLen K CW CS)
  cont : Own P w K mg base CX0 2 CW "__contains__" (spIn K CW CS)
  geti : Own P w K mg base (L2.CX P w) 4 CW "__getitem__" (spGI K CW CS CF CN eE)
  eq : Own P w K mg base CX0 4 CW "__eq__" (spEq K CW CS)
  nf : PySem.W.notFirst K CW (.ref CW) = true
  nft : PySem.W.notFirst K CW (.type "tuple") = true
  call : CalO P w K mg base CX0 3 CF (fun vs H Q E => spFC K CF eE (vs ++ [.int 200]) H Q E)
  count : CalM P w K mg base CX0 5 CF "count" (spFn K CF eE)
structure LS (K : PySem.W.Frag) (CW CS : Addr) (p c W kt a : Addr) (ws ys : List PySem.Str) (H : Hp) (N : Nat) : Prop where
  pen : Pen H p c N
  W : H W = some (.lst (ws.map V.str))
  kt : SqT K H kt (ys.map V.str)
  wl : Wld K CW CS H a (ys.map V.str)
theorem LS.same {K : PySem.W.Frag} {CW CS p c W kt a : Addr} {ws ys : List PySem.Str} {H H' : Hp} {N : Nat} (s : Same H H') (h : LS K CW CS p c W kt a ws ys H N) : LS K CW CS p c W kt a ws ys H' N :=
  ⟨Pen.same s h.pen, s _ _ h.W, same_tup s h.kt, Wld.same s h.wl⟩
theorem LS.step {K : PySem.W.Frag} {CW CS p c W kt a : Addr} {ws ys : List PySem.Str} {H H' : Hp} {N M : Nat} (s : SameB p H H') (g : Pen H' p c M) (h : LS K CW CS p c W kt a ws ys H N) : LS K CW CS p c W kt a ws ys H' M := by
  obtain ⟨hp, hW, hk, ⟨dx, so, st, w0, w1, ⟨ex, kn, pl, pc, dd, td, ru, gu, sp, q0, q1, q2, q3, q4, q5, q6, q7, q8⟩⟩⟩ := h
  obtain ⟨ns, b, r, e1, _⟩ := hp
  have tu : ∀ {q : Addr} {xs : List V}, SqT K H q xs → SqT K H' q xs := fun h => sqB s e1 nt_dk h
  refine ⟨g, s _ _ (fun z => by rw [z, e1] at hW; cases hW) hW, tu hk, dx, so, st, s _ _ (fun z => by rw [z, e1] at w0; cases w0) w0, tu w1, ex, kn, pl, pc, dd, td, ru, gu, sp, s _ _ (fun z => by rw [z, e1] at q0; cases q0) q0, tu q1, s _ _ (fun z => by rw [z, e1] at q2; cases q2) q2, tu q3, s _ _ (fun z => by rw [z, e1] at q4; cases q4) q4, tu q5, tu q6, tu q7, tu q8⟩
theorem take_int (xs : List V) {r : Int} (h : 0 ≤ r) : cutV xs none (some r) = xs.take r.toNat := by
  obtain ⟨k, rfl⟩ := Int.eq_ofNat_of_zero_le h
  rw [cutV_take]
  rfl
theorem drop_int (xs : List V) {r : Int} (h : 0 ≤ r) : cutV xs (some r) none = xs.drop r.toNat := by
  obtain ⟨k, rfl⟩ := Int.eq_ofNat_of_zero_le h
  rw [cutV_drop]
  rfl
structure Kns (ws ys : List PySem.Str) : Prop where
  nd : ys.Nodup
  nm : ∀ z ∈ ys, nameV (.str z) = true
  sh : ∀ z ∈ ys, z.length ≤ 11
  len : ys.length ≤ 4
  out : ∀ i, 5 ≤ i → ∀ z, ws[i]? = some z → z ∉ ys
theorem kns_of {ws ys : List PySem.Str} {k : Nat} (g : GoodWs ws) (hk : k ≤ 4) (pm : ys.Perm (ws.take k)) : Kns ws ys := by
  have sub : ∀ z ∈ ys, z ∈ ws := fun z h => List.mem_of_mem_take (pm.mem_iff.mp h)
  refine ⟨pm.nodup_iff.mpr (g.nd.sublist (List.take_sublist _ _)), fun z h => g.nm z (sub z h), fun z h => g.sh z (sub z h), ?_, fun i hi z hz hm => ?_⟩
  · rw [pm.length_eq, List.length_take]
    omega
  · obtain ⟨j, hj⟩ := List.getElem?_of_mem (pm.mem_iff.mp hm)
    rw [List.getElem?_take] at hj
    split at hj
    · rename_i hjk
      have hi' := (List.getElem?_eq_some_iff.mp hz).1
      have hj' := (List.getElem?_eq_some_iff.mp hj).1
      have e1 := (List.getElem?_eq_some_iff.mp hz).2
      have e2 := (List.getElem?_eq_some_iff.mp hj).2
      have nd := List.pairwise_iff_getElem.mp (show ws.Pairwise (· ≠ ·) from g.nd)
      exact nd j i hj' hi' (by omega) (e2.trans e1.symm)
    · cases hj
theorem Kns.ok {ws ys : List PySem.Str} (h : Kns ws ys) : ∀ z ∈ ys, okS z = true := fun z hz => okS_of (h.nm z hz)
theorem Kns.flat {ws ys : List PySem.Str} (h : Kns ws ys) : ∀ x ∈ ys.map V.str, Flat x := fun x hx => by
  obtain ⟨z, hz, rfl⟩ := List.mem_map.mp hx
  have := h.sh z hz
  exact .str z (by omega)
theorem Kns.all {ws ys : List PySem.Str} (h : Kns ws ys) : (ys.map V.str).all nameV = true := by
  rw [List.all_eq_true]
  intro x hx
  obtain ⟨z, hz, rfl⟩ := List.mem_map.mp hx
  exact h.nm z hz
theorem Kns.kn {K : PySem.W.Frag} {H : Hp} {ws ys : List PySem.Str} {kt : Addr} (h : Kns ws ys) (hs : SqT K H kt (ys.map V.str)) : Kn K H (.ref kt) (some (ys.map V.str)) :=
  .good hs h.flat (by rw [List.length_map]; have := h.len; omega) h.all (nodup_str.mpr h.nd)
theorem Kns.few {ws ys : List PySem.Str} (h : Kns ws ys) : Few ys := ⟨by have := h.len; omega, fun z hz => by have := h.sh z hz; omega⟩
theorem flats (ys : List PySem.Str) : (ys.map V.str).all flatV = true := by
  rw [List.all_map, List.all_eq_true]
  exact fun _ _ => rfl
theorem page_eq (ys : List PySem.Str) : (("known" : PySem.Str) ++ SO.repS " " (if ys = [] then 0 else 1)) ++ PySem.Txt.join ", " ys = pageT ys := by
  cases ys with
  | nil =>
    rw [TL.join_eq]
    show (("known" : PySem.Str) ++ SO.repS " " 0) ++ Str.join ", " [] = "known"
    decide +kernel
  | cons y r =>
    unfold pageT
    rw [if_neg (by simp), if_neg (by simp), SO.repS_one]
    rfl
theorem in_false {z : PySem.Str} {ys : List PySem.Str} (h : z ∉ ys) : inV (.str z) (ys.map V.str) = false := by
  unfold inV
  rw [List.any_eq_false]
  intro v hv
  obtain ⟨y, hy, rfl⟩ := List.mem_map.mp hv
  show ¬ (y == z) = true
  intro e
  exact h (eq_of_beq e ▸ hy)
theorem in_true {z : PySem.Str} {ys : List PySem.Str} (h : z ∈ ys) : inV (.str z) (ys.map V.str) = true := by
  unfold inV
  rw [List.any_eq_true]
  exact ⟨.str z, List.mem_map.mpr ⟨z, h, rfl⟩, by show (z == z) = true; simp⟩
theorem cut57 {ws : List PySem.Str} (hl : ws.length = 12) {i : Nat} {x : V} (h : (cutV (ws.map V.str) (some 5) (some 7))[i]? = some x) : ∃ z j, x = .str z ∧ 5 ≤ j ∧ ws[j]? = some z := by
  unfold cutV at h
  rw [show (some (5 : Int)) = some ((5 : Nat) : Int) from rfl, show (some (7 : Int)) = some ((7 : Nat) : Int) from rfl, HT.sIx_nat, HT.sIx_nat, List.length_map, hl] at h
  rw [List.getElem?_take] at h
  split at h
  · rw [List.getElem?_drop, List.getElem?_map] at h
    cases e : ws[min 5 12 + i]? with
    | none => rw [e] at h; cases h
    | some z =>
      rw [e] at h
      exact ⟨z, _, (Option.some.inj h).symm, by omega, e⟩
  · cases h
theorem eqv_set : PyData.eqv (.tuple [.str "set", .tuple []]) (.tuple [.str "set", .tuple []]) = true := by simp [PyData.eqv, PyData.eqvAll]
theorem shaped_set : SeqAt.shaped (.tuple [.str "set", .tuple []]) = true := by decide +kernel
theorem eqv_listS (zs ys : List PySem.Str) : PyData.eqv (.list (zs.map PyData.str)) (.list (ys.map PyData.str)) = decide (zs = ys) := by
  rw [PyData.eqv]
  exact eqv_strs zs ys
def bads : List PySem.Str := ["all", "pass", "true", "Ann", "", SO.repS "a" 13, "x y", "known"]
theorem bads_all : ∀ z ∈ bads, nameV (.str z) = false ∧ okS z = true ∧ z.length ≤ 13 := by decide +kernel
theorem Kns.perm {ws ys zs : List PySem.Str} (h : Kns ws ys) (p : zs.Perm ys) : Kns ws zs :=
  ⟨p.nodup_iff.mpr h.nd, fun z hz => h.nm z (p.mem_iff.mp hz), fun z hz => h.sh z (p.mem_iff.mp hz), by rw [p.length_eq]; exact h.len, fun i hi z hz hm => h.out i hi z hz (p.mem_iff.mp hm)⟩
theorem rot_ne {ys : List PySem.Str} (nd : ys.Nodup) (h : ¬ ys.length < 2) : ys.drop 1 ++ ys.take 1 ≠ ys := by
  match ys, h with
  | [], h => exact absurd (by decide) h
  | [a], h => exact absurd (by show 1 < 2; decide) h
  | a :: b :: r, _ =>
    intro e
    have e' : b :: (r ++ [a]) = a :: b :: r := e
    injection e' with h1 h2
    have := (List.nodup_cons.mp nd).1
    exact this (by rw [← h1]; simp)
theorem shaped_nil : SeqAt.shaped (.tuple []) = true := by decide +kernel
theorem eqv_nil : PyData.eqv (.tuple []) (.tuple []) = true := eqv_tup [] []
noncomputable abbrev sLaw : Stmt := HK.stA TW 253
abbrev nLaw : List PySem.Str := ["_law_script", "_law_pen_here", "_law_words_here", "_law_known", "_law_world", "_law_n", "_law_word", "_law_family", "_law_one", "_law_bad", "_law_name", "_law_spot", "_law_wrong", "_law_some"]
theorem scLaw : FnScope nLaw ["_law_script"] (defScope sLaw) := ⟨rfl, rfl, rfl, by decide +kernel, rfl, by decide +kernel, by decide +kernel⟩
def spLaw (K : PySem.W.Frag) : Sp := fun vs H Q _ => ∃ a ns, vs = [.ref a] ∧ SqL K H a (List.map V.int ns) ∧ ns.length ≤ 63 ∧ ∀ H', Q (.bl true) H'
section
variable {P : Program} {w : World} {K : PySem.W.Frag} {mg : PySem.Str → Option Value} {base : Heap} {f CW CS CF CB CN eE : Addr} {fd : FuncData}
theorem okLaw (F : L2.Fun K "law" "law" sLaw f fd) (T : LawT P w K mg base CW CS CF CB CN eE) : FnOk P w K mg base CX0 8 f fd ["_law_script"] (spLaw K) := by
  have B := T.B
  refine F.ok scLaw (fun vs H Q E h => by obtain ⟨a, ns, rfl, _⟩ := h; rfl) (fun cdv A outer s H vs Q E hr h => ?_)
  refine ⟨_, pss_cons (ps_set (i := 1) scLaw.nd rfl (.inl rfl) (pe_c T.pen (hr.mono (by decide)) (by rfl) pass0 (pa_cons (pv 0) pa_nil)))
    (pss_cons (ps_set (i := 2) scLaw.nd rfl (.inl rfl) (pe_c T.words (hr.mono (by decide)) (by rfl) pass0 (pa_cons (pv 1) (pa_cons pe_int pa_nil))))
    (pss_cons (ps_set (i := 3) scLaw.nd rfl (.inl rfl) (pe_callTy call_tuple_of (by rfl) (B _ (by decide)) (by decide +kernel) (pa_cons (pe_c T.shuf (hr.mono (by decide)) (by rfl) pass0 (pa_cons (pv 1) (pa_cons (pe_slice sl_list (pv 2) po_none (po_some (pe_c T.draw (hr.mono (by decide)) (by rfl) pass0 (pa_cons (pv 1) (pa_cons pe_int pa_nil))))) pa_nil))) pa_nil)))
    (pss_cons (ps_par (i := 4) (j := 5) rfl scLaw.nd rfl rfl (by decide) rfl rfl (pa_cons (pe_mk T.world (hr.mono (by decide)) (by rfl) passL (pa_cons (pv 3) pa_nil))
        (pa_cons (pe_op op_add (pe_c T.pick (hr.mono (by decide)) (by rfl) pass0 (pa_cons (pv 1) (pa_cons (pe_lst (pa_cons pe_int (pa_cons (pe_op op_pow pe_int pe_int) (pa_cons (pe_op op_pow pe_int pe_int) pa_nil)))) pa_nil)))
          (pe_c T.draw (hr.mono (by decide)) (by rfl) pass0 (pa_cons (pv 1) (pa_cons pe_int pa_nil)))) pa_nil)) rfl)
    (pss_cons (ps_if (PW.pt (pw_or (pt_cmpR (op_neD hr.units) (pe_p (pv 4) T.clW T.names (hr.mono (by decide)) pass0) (pv 3) (nomark _))
        (pw_or (pt_cmpR op_ne (pe_p (pv 4) T.clW T.allw (hr.mono (by decide)) pass0) pe_int (nomark _))
        (pw_or (pt_cmpR op_ne (pe_callB (call_lenC T.len (hr.mono (by decide)) pass0) (by rfl) (B _ (by decide)) (by decide +kernel) (pa_cons (pv 4) pa_nil)) pe_int (nomark _))
        (pw_or1 (pt_cmpR (op_ne_dictA hr.units0) (pe_m (pv 4) T.clW T.vals (hr.mono (by decide)) pass0 (pa_cons pe_int pa_nil)) pe_dnewK (nomark _))))))) (pss_one (ps_ret pe_bl)) pss_nil)
    (pss_cons (ps_if (pt_cmpR op_ne (pe_p (pv 4) T.clW T.page (hr.mono (by decide)) pass0)
        (pe_op op_add_str (pe_op op_add_str pe_str (pe_op SO.op_mulS pe_str (pe_callTy call_int1 (by rfl) (B _ (by decide)) (by decide +kernel) (pa_cons (pe_cmpR (op_neD hr.units) (pv 3) (pe_tup pa_nil) (nomark _)) pa_nil)))) (pe_join pe_str (pv 3))) (nomark _)) (pss_one (ps_ret pe_bl)) pss_nil)
    (pss_cons (ps_for PassesOwn.never rfl (pi_list (pe_slice sl_list (pv 2) (po_some pe_int) (po_some pe_int))) (pg_name (i := 6) scLaw.nd rfl (.inl rfl))
      (pss_cons (ps_set (i := 7) scLaw.nd rfl (.inl rfl) (pe_ixC (pv 4) (pv 6) T.geti (hr.mono (by decide)) passL))
      (pss_cons (ps_if (PW.pt (pw_or (pt_cmpR (op_neD hr.units) (pe_callC (pv 7) T.call (hr.mono (by decide)) pass0 (pa_cons pe_int pa_nil)) (pe_tup (pa_cons pe_str (pa_cons (pe_tup pa_nil) pa_nil))) (nomark _)) (pw_or (pt_cmpR (op_neD hr.units) (pe_callC (pv 7) T.call (hr.mono (by decide)) pass0 (pa_cons pe_int pa_nil)) (pe_tup (pa_cons pe_str (pa_cons (pe_tup pa_nil) pa_nil))) (nomark _)) (pw_or (pt_cmpR op_ne (pe_m (pv 7) T.clF T.count (hr.mono (by decide)) pass0 (pa_cons (pv 5) pa_nil)) pe_int (nomark _))
          (pw_or1 (pt_cmpR (op_inC T.cont (hr.mono (by decide)) pass0) (pv 6) (pv 4) (by rfl))))))) (pss_one (ps_ret pe_bl)) pss_nil)
      (pss_one (ps_if (pt_cmpR (op_neD hr.units) (pe_callB cr_sortedS (by rfl) (B _ (by decide)) (by decide +kernel) (pa_cons (pe_lc (own := [("_law_one", 8)]) (g := gName 8) (tt := tYes) rfl scLaw.nd (pi_tup (pe_fld (pv 7) rfl)) (blkOk_by (own := [("_law_one", 8)]) (N := nLaw) (sc := defScope sLaw) (by decide +kernel)) (fun _ _ _ _ _ => pg_name (i := 8) scLaw.nd rfl (Or.inl rfl)) (fun _ _ _ _ _ => pts_nil) (fun _ _ _ _ _ => pe_callTy SkE.call_str_str (by rfl) (B _ (by decide)) (by decide +kernel) (pa_cons (pv 8) pa_nil))) pa_nil)) (pe_callB cr_sortedS (by rfl) (B _ (by decide)) (by decide +kernel) (pa_cons (pe_lc (own := [("_law_one", 8)]) (g := gName 8) (tt := tYes) rfl scLaw.nd (pi_tup (pv 3)) (blkOk_by (own := [("_law_one", 8)]) (N := nLaw) (sc := defScope sLaw) (by decide +kernel)) (fun _ _ _ _ _ => pg_name (i := 8) scLaw.nd rfl (Or.inl rfl)) (fun _ _ _ _ _ => pts_nil) (fun _ _ _ _ _ => pe_callTy SkE.call_str_str (by rfl) (B _ (by decide)) (by decide +kernel) (pa_cons (pv 8) pa_nil))) pa_nil)) (nomark _)) (pss_one (ps_ret pe_bl)) pss_nil)))))
    (pss_cons (ps_set (i := 9) scLaw.nd rfl (.inl rfl) (pe_c T.pick (hr.mono (by decide)) (by rfl) pass0 (pa_cons (pv 1) (pa_cons (pe_lst (pa_cons pe_str (pa_cons pe_str (pa_cons pe_str (pa_cons pe_str (pa_cons pe_str (pa_cons (pe_op SO.op_mulS pe_str pe_int) (pa_cons pe_str (pa_cons pe_str pa_nil))))))))) pa_nil))))
    (pss_cons (ps_for PassesOwn.never rfl (pi_list (pe_op op_cat (pe_callTy call_list_of (by rfl) (B _ (by decide)) (by decide +kernel) (pa_cons (pv 3) pa_nil)) (pe_lst (pa_cons (pv 9) pa_nil)))) (pg_name (i := 10) scLaw.nd rfl (.inl rfl))
      (pss_one (ps_if (PW.pt (pw_or (pt_cmpR (op_neD hr.units) (pe_c T.item (hr.mono (by decide)) (by rfl) pass0 (pa_cons (pv 4) (pa_cons (pv 10) pa_nil))) (pe_lst (pa_cons (pv 10) pa_nil)) (nomark _)) (pw_or1 (pt_cmpR (op_inC T.cont (hr.mono (by decide)) pass0) (pv 10) (pv 4) (by rfl))))) (pss_one (ps_ret pe_bl)) pss_nil)))
    (pss_cons (ps_if (pt_cmpR (op_neD hr.units) (pe_c T.item (hr.mono (by decide)) (by rfl) pass0 (pa_cons (pv 4) (pa_cons (pe_ix ix_list (pv 2) pe_int (fun _ _ => rfl)) pa_nil))) (pe_lst (pa_cons pe_str pa_nil)) (nomark _)) (pss_one (ps_ret pe_bl)) pss_nil)
    (pss_cons (ps_set (i := 11) scLaw.nd rfl (.inl rfl) (pe_c T.draw (hr.mono (by decide)) (by rfl) pass0 (pa_cons (pv 1) (pa_cons (pe_op op_add (pe_callB call_len_seq (by rfl) (B _ (by decide)) (by decide +kernel) (pa_cons (pv 3) pa_nil)) pe_int) pa_nil))))
    (pss_cons (ps_set (i := 12) scLaw.nd rfl (.inl rfl) (pe_c T.pick (hr.mono (by decide)) (by rfl) pass0 (pa_cons (pv 1) (pa_cons (pe_op op_cat (pe_lst (pa_cons (pv 9) (pa_cons pe_int (pa_cons pe_non pa_nil)))) (pe_callTy call_list_of (by rfl) (B _ (by decide)) (by decide +kernel) (pa_cons (pv 3) pa_nil))) pa_nil))))
    (pss_cons (ps_for PassesOwn.never rfl (pi_tup (pe_tup (pa_cons (pe_op op_catA (pe_op op_catA (pe_slice sl_tupA (pv 3) po_none (po_some (pv 11))) (pe_tup (pa_cons (pv 12) pa_nil))) (pe_slice sl_tupA (pv 3) (po_some (pv 11)) po_none)) (pa_cons (pe_callTy call_list_of (by rfl) (B _ (by decide)) (by decide +kernel) (pa_cons (pv 3) pa_nil)) (pa_cons (pe_ix ix_list (pv 2) pe_int (fun _ _ => rfl)) pa_nil))))) (pg_name (i := 13) scLaw.nd rfl (.inl rfl))
      (pss_one (ps_if (pt_cmpR (op_neD hr.units) (pe_c T.err hr (by rfl) pass0 (pa_cons (pv 13) pa_nil)) (pe_tup pa_nil) (nomark _)) (pss_one (ps_ret pe_bl)) pss_nil)))
    (pss_cons (ps_if (PW.pt (pw_or (pt_cmpR op_ne (pe_c T.err hr (by rfl) pass0 (pa_cons (pv 3) pa_nil)) pe_str (nomark _)) (pw_or (pt_not (pt_cmpR (op_eqC T.eq T.nf (hr.mono (by decide)) pass0) (pe_mk T.world (hr.mono (by decide)) (by rfl) passL (pa_cons (pv 3) pa_nil)) (pv 4) (nomark _))) (pw_or1 (pt_cmpR (op_eqTC T.eq T.nft (hr.mono (by decide)) pass0) (pv 4) (pv 3) (nomark _)))))) (pss_one (ps_ret pe_bl)) pss_nil)
    (pss_one (ps_ret (pe_or (pe_cmpR op_lt (pe_callB call_len_seq (by rfl) (B _ (by decide)) (by decide +kernel) (pa_cons (pv 3) pa_nil)) pe_int (nomark _)) (pe_one (pe_not (pe_cmpR (op_eqC T.eq T.nf (hr.mono (by decide)) pass0) (pe_mk T.world (hr.mono (by decide)) (by rfl) passL (pa_cons (pe_op op_catA (pe_slice sl_tupA (pv 3) (po_some pe_int) po_none) (pe_slice sl_tupA (pv 3) po_none (po_some pe_int))) pa_nil)) (pv 4) (nomark _)))))))))))))))))))), ?_⟩
  obtain ⟨sa, ns, rfl, hsa, hns, k⟩ := h
  refine ⟨_, rfl, sa, ns, rfl, hsa, hns, fun H1 p c s1 np hp1 => ?_⟩
  refine ⟨_, rfl, p, c, 0, rfl, hp1, by omega, fun H2 W ws b2 hp2 gw nW hW => ?_⟩
  have pW : W ≠ p := by
    obtain ⟨kv, e⟩ := Pen.dk hp2
    exact fun z => by rw [z, e] at hW; cases hW
  refine ⟨_, rfl, _, rfl, _, rfl, p, c, 30, 5, rfl, by decide, by decide, hp2, by omega, fun r H3 r0 r1 b3 hp3 => ?_⟩
  refine ⟨r, rfl, W, _, rfl, SqL.of (b3 _ _ pW hW), fun I nI => ?_⟩
  rw [take_int _ r0, ← List.map_take]
  have s4 := same_new (o := .lst ((ws.take r.toNat).map V.str)) nI
  refine ⟨p, c, 31, I, ws.take r.toNat, rfl, Pen.same s4 hp3, by omega, SqL.of upd_same, by rw [List.length_take]; omega, fun z hz => okS_of (gw.nm z (List.mem_of_mem_take hz)), fun H4 F ys b4 hp4 pm nF hF => ?_⟩
  have kn := kns_of (k := r.toNat) gw (by omega) pm
  refine ⟨F, _, rfl, .inl ⟨SqL.of hF, fun kt nkt => ?_⟩⟩
  have s5 := same_new (o := .tup (ys.map V.str)) nkt
  have hW5 : (upd H4 kt (.tup (ys.map V.str))) W = some (.lst (ws.map V.str)) := s5 _ _ (b4 _ _ pW (s4 _ _ (b3 _ _ pW hW)))
  have hp5 := Pen.same s5 hp4
  -- the world
  refine ⟨_, rfl, fun x dx nx ndx ne => ?_⟩
  have s6 := same_made (o := .ins CW dx []) nx ndx ne
  refine ⟨x, dx, .ref kt, _, rfl, upd_same, kn.kn (same_tup s6 (.inl (.inl upd_same))), (fun q => nomatch q), fun xs hxs H7 b7 hw7 => ⟨rfl, ?_⟩⟩
  obtain rfl := Option.some.inj hxs
  have s7 := same_but s6 nx b7
  have L7 : LS K CW CS p c W kt x ws ys H7 51 := ⟨Pen.same s7 hp5, s7 _ _ hW5, same_tup s7 (.inl (.inl upd_same)), hw7⟩
  -- n
  refine ⟨_, rfl, _, _, rfl, rfl, ⟨by decide, by decide, by decide⟩, _, _, rfl, rfl, ⟨by decide, by decide, by decide⟩, (by show 3 ≤ sizeLine; decide), fun O nO => ?_⟩
  have s8 := same_new (o := .lst [.int 5, .int (10 ^ (9 : Int).toNat), .int (10 ^ (60 : Int).toNat)]) nO
  refine ⟨p, c, 51, _, rfl, (L7.same s8).pen, by omega, .inl ⟨O, _, rfl, SqL.of upd_same, (by decide), (by decide), fun v hv H9 b9 hp9 => ?_⟩⟩
  obtain ⟨m, m0, rfl⟩ : ∃ m : Int, 0 ≤ m ∧ v = .int m := by
    rcases List.mem_cons.mp hv with rfl | hv
    · exact ⟨_, by decide, rfl⟩
    · rcases List.mem_cons.mp hv with rfl | hv
      · exact ⟨_, by decide, rfl⟩
      · rw [List.mem_singleton] at hv
        exact ⟨_, by decide, hv⟩
  have L9 := (L7.same s8).step b9 hp9
  refine ⟨_, rfl, p, c, 52, 1000, rfl, by decide, by decide, hp9, by omega, fun r' H10 r0' r1' b10 hp10 => ?_⟩
  have L10 := L9.step b10 hp10
  refine ⟨_, _, rfl, rfl, _, _, rfl, ?_⟩
  have n0 : 0 ≤ m + r' := by omega
  generalize hnn : m + r' = n at n0
  -- names, allowed, len, values_at
  obtain ⟨dw, so, st, w0, w1, w2⟩ := id L10.wl
  refine ⟨_, rfl, x, dw, _, rfl, w0, x, _, rfl, L10.wl, fun kn' hkn' => ?_⟩
  refine ⟨_, rfl, _, _, .tup hkn' (dp_strs ys), .tup L10.kt (dp_strs ys), shaped_strs kn.ok, shaped_strs kn.ok, _, rfl, ?_⟩
  rw [eqv_tup]
  refine iteF' (by simp) ?_
  refine ⟨_, rfl, x, dw, _, rfl, w0, x, _, rfl, L10.wl, rfl, _, rfl, iteF' (by decide) ?_⟩
  refine ⟨_, rfl, x, dw, _, rfl, w0, x, _, rfl, L10.wl, fun H11 s11 => ⟨0, rfl, by decide, by decide, rfl, _, rfl, iteF' (by decide) ?_⟩⟩
  have L11 := L10.same s11
  refine ⟨_, rfl, x, dw, _, rfl, s11 _ _ w0, rfl, x, _, _, rfl, L11.wl, fun H12 d s12 nd hd => ?_⟩
  intro d2 nd2
  have s13 := same_new (o := .dK []) nd2
  refine ⟨d, d2, [], [], rfl, rfl, s13 _ _ hd, upd_same, rfl, (by simp), _, rfl, iteF ?_⟩
  have L13 := (L11.same s12).same s13
  have w13 := s13 _ _ (s12 _ _ (s11 _ _ w0))
  generalize hH13 : upd H12 d2 (.dK []) = H13 at L13 w13
  -- page
  refine ⟨_, rfl, x, dw, _, rfl, w13, x, ys, rfl, L13.wl, kn.few, fun H14 s14 => ?_⟩
  have L14 := L13.same s14
  refine ⟨_, rfl, by show 0 ≤ sizeLine; decide, fun t nt => ?_⟩
  have s15 := same_new (o := .tup []) nt
  have L15 := L14.same s15
  refine ⟨_, _, .tup L15.kt (dp_strs ys), .tup (.inl (.inl upd_same)) .nil, shaped_strs kn.ok, (by decide), .inr ⟨_, rfl, ?_⟩⟩
  have e15 : (if (!PyData.eqv (.tuple (ys.map PyData.str)) (.tuple [])) = true then (1 : Int) else 0) = ((if ys = [] then 0 else 1 : Nat) : Int) := by
    rw [show PyData.eqv (.tuple (ys.map PyData.str)) (.tuple []) = decide (ys = []) from eqv_tup ys []]
    by_cases h : ys = [] <;> simp [h]
  have hrl : (SO.repS " " (if ys = [] then 0 else 1)).length ≤ 1 := by
    rw [SO.repS_len]
    have : (" " : PySem.Str).length = 1 := rfl
    rw [this]
    split <;> omega
  have hjl := join_len (", " : PySem.Str) (B := 30) (by decide) ys kn.few.2
  have hyl := kn.len
  refine ⟨" ", if ys = [] then 0 else 1, rfl, congrArg V.int e15, ?_, ?_, ?_⟩
  · have : (" " : PySem.Str).length = 1 := rfl
    rw [this]
    split <;> omega
  · split <;> omega
  refine ⟨_, _, rfl, rfl, ?_, ?_⟩
  · rw [sizeLine_eq]
    show 5 + (SO.repS " " (if ys = [] then 0 else 1)).length ≤ _
    omega
  refine ⟨⟨_, rfl⟩, _, rfl, _, kt, ys, rfl, rfl, .inr L15.kt, join_room (y := ", ") (by decide) (by omega) kn.few.2, ?_⟩
  refine ⟨_, _, rfl, rfl, ?_, ?_⟩
  · rw [sizeLine_eq]
    have := len_app ("known" : PySem.Str) (SO.repS " " (if ys = [] then 0 else 1))
    have h5 : ("known" : PySem.Str).length = 5 := rfl
    show (("known" : PySem.Str) ++ SO.repS " " (if ys = [] then 0 else 1)).length + (PySem.Txt.join (", " : PySem.Str) ys).length ≤ _
    omega
  refine ⟨rfl, _, rfl, iteF' (by
    have := page_eq ys
    show (!decide (V.str (pageT ys) = V.str ((("known" : PySem.Str) ++ SO.repS " " (if ys = [] then 0 else 1)) ++ PySem.Txt.join (", " : PySem.Str) ys))) = false
    rw [this]
    simp) ?_⟩
  generalize hH15 : upd H14 t (.tup []) = H15 at L15
  -- the words 5, 6
  refine ⟨_, rfl, _, rfl, _, rfl, W, _, rfl, SqL.of L15.W, fun Z nZ => ?_⟩
  have sZ := same_new (o := .lst (cutV (ws.map V.str) (some 5) (some 7))) nZ
  have LZ := L15.same sZ
  have pZ : Z ≠ p := by
    obtain ⟨kv, e⟩ := Pen.dk L15.pen
    exact Ne.symm (ne_of_none e nZ)
  refine ⟨Z, rfl, ⟨_, SqL.of upd_same⟩, ?_⟩
  refine for_list (xs := cutV (ws.map V.str) (some 5) (some 7)) (fun i σ H' => ∃ w1 w2, σ = [some (.ref sa), some (.ref p), some (.ref W), some (.ref kt), some (.ref x), some (.int n), w1, w2, none, none, none, none, none, none] ∧ LS K CW CS p c W kt x ws ys H' 53 ∧ H' Z = some (.lst (cutV (ws.map V.str) (some 5) (some 7))))
    ⟨none, none, by rw [← hnn]; rfl, LZ, upd_same⟩ (fun i σ H' _ h => by obtain ⟨_, _, _, _, h⟩ := h; exact SqL.of h) (fun i v σ H' hi h => ?_) (fun σ H' h => ?_)
  · obtain ⟨w1, w2, rfl, L, hZ⟩ := h
    obtain ⟨z, j, rfl, hj, hz⟩ := cut57 gw.len hi
    have hzn := gw.nm z (List.mem_of_getElem? hz)
    have hzl := gw.sh z (List.mem_of_getElem? hz)
    have hzo := kn.out j hj z hz
    obtain ⟨dv, so, st, v0, v1, v2⟩ := id L.wl
    refine ⟨_, rfl, _, rfl, x, dv, _, rfl, v0, x, z, _, rfl, by omega, L.wl, flats ys, by rw [List.length_map]; omega, .inl ⟨hzn, in_false hzo, fun G1 fa t1 hF => ?_⟩⟩
    have L1 := L.same t1
    obtain ⟨df, k2, rl, rr, f0, f1, f2, f3⟩ := id hF
    -- family(0)
    refine ⟨_, rfl, fa, rfl, .inr ⟨df, _, f0⟩, fa, _, 0, 200, rfl, by decide, by decide, hF, fun G2 p2 q2 t2 h2 g2 => ?_⟩
    refine ⟨by show 0 ≤ sizeLine; decide, fun e1 ne1 => ?_⟩
    have t3 := same_new (o := .tup []) ne1
    refine ⟨by show 2 ≤ sizeLine; decide, fun e2 ne2 => ?_⟩
    have t4 := same_new (o := .tup [.str "set", .ref e1]) ne2
    refine ⟨.tuple [.str "set", .tuple []], .tuple [.str "set", .tuple []], .tup (same_tup (t3.trans t4) h2) (.cons (.str _) (.cons (.tup (same_tup (t3.trans t4) g2) .nil) .nil)), .tup (.inl (.inl upd_same)) (.cons (.str _) (.cons (.tup (.inl (.inl (t4 _ _ upd_same))) .nil) .nil)), shaped_set, shaped_set, _, rfl, iteF' (by rw [eqv_set]; rfl) ?_⟩
    have t24 := (t2.trans t3).trans t4
    have hF4 := Fam.same t24 hF
    have L4 := L1.same t24
    -- family(3)
    refine ⟨_, rfl, fa, rfl, .inr ⟨df, _, t24 _ _ f0⟩, fa, _, 3, 200, rfl, by decide, by decide, hF4, fun G5 p5 q5 t5 h5 g5 => ?_⟩
    refine ⟨by show 0 ≤ sizeLine; decide, fun e6 ne6 => ?_⟩
    have t6 := same_new (o := .tup []) ne6
    refine ⟨by show 2 ≤ sizeLine; decide, fun e7 ne7 => ?_⟩
    have t7 := same_new (o := .tup [.str "set", .ref e6]) ne7
    refine ⟨.tuple [.str "set", .tuple []], .tuple [.str "set", .tuple []], .tup (same_tup (t6.trans t7) h5) (.cons (.str _) (.cons (.tup (same_tup (t6.trans t7) g5) .nil) .nil)), .tup (.inl (.inl upd_same)) (.cons (.str _) (.cons (.tup (.inl (.inl (t7 _ _ upd_same))) .nil) .nil)), shaped_set, shaped_set, _, rfl, iteF' (by rw [eqv_set]; rfl) ?_⟩
    have t57 := (t5.trans t6).trans t7
    have hF7 := Fam.same t57 hF4
    have L7' := L4.same t57
    -- count, in
    refine ⟨_, rfl, fa, df, _, rfl, t57 _ _ (t24 _ _ f0), rfl, _, rfl, fa, _, n, rfl, n0, hF7, fun G8 t8 => ⟨rfl, _, rfl, iteF' (by decide) ?_⟩⟩
    have L8 := L7'.same t8
    have v8 := t8 _ _ (t57 _ _ (t24 _ _ (t1 _ _ v0)))
    refine ⟨_, rfl, _, rfl, x, dv, _, rfl, v8, x, _, _, rfl, L8.wl, rfl, fun G9 t9 => ⟨false, rfl, _, rfl, iteF ?_⟩⟩
    have L9' := L8.same t9
    have tt := ((t24.trans t57).trans t8).trans t9
    have f09 := tt _ _ f0
    have f19 := same_tup tt f1
    -- sorted
    refine ⟨_, rfl, fa, CF, df, _, _, rfl, f09, T.clF, T.knF, rfl, k2, rfl, ⟨_, f19⟩, fun D nD => ?_⟩
    refine lc_pure walk_tup (xs := ys.map V.str) (fun v => v) y_at rfl (by rw [List.length_map]; omega) nD (fun H' s => same_tup s f19) (fun v hv H' s Q' q => ?_) fun G10 t10 hl10 => ?_
    · obtain ⟨y, hy, rfl⟩ := List.mem_map.mp hv
      exact ⟨_, rfl, y, rfl, q H' (Same.refl _)⟩
    rw [List.map_id'] at hl10
    refine ⟨D, ys, rfl, SqL.of hl10, by omega, fun m1 p1 pm1 so1 np1 => ?_⟩
    have t11 := same_new (o := .lst (m1.map V.str)) np1
    have L11' := (L9'.same t10).same t11
    refine ⟨_, rfl, kt, rfl, ⟨_, L11'.kt⟩, fun D2 nD2 => ?_⟩
    refine lc_pure walk_tup (xs := ys.map V.str) (fun v => v) y_at rfl (by rw [List.length_map]; omega) nD2 (fun H' s => same_tup s L11'.kt) (fun v hv H' s Q' q => ?_) fun G12 t12 hl12 => ?_
    · obtain ⟨y, hy, rfl⟩ := List.mem_map.mp hv
      exact ⟨_, rfl, y, rfl, q H' (Same.refl _)⟩
    rw [List.map_id'] at hl12
    refine ⟨D2, ys, rfl, SqL.of hl12, by omega, fun m2 p2' pm2 so2 np2 => ?_⟩
    have t13 := same_new (o := .lst (m2.map V.str)) np2
    have em := GQ.sorted_uniq pm1 pm2 so1 so2
    have okm : ∀ z ∈ m1, okS z = true := fun z h => kn.ok z (pm1.mem_iff.mp h)
    refine ⟨_, _, .lst (SqL.of (t13 _ _ (t12 _ _ upd_same))) (dp_strs m1), .lst (SqL.of upd_same) (dp_strs m2), shaped_strsL okm, shaped_strsL (em ▸ okm), _, rfl, iteF' (by rw [eqv_listS, em]; simp) ?_⟩
    refine ⟨_, _, rfl, (L11'.same t12).same t13, ?_⟩
    exact t13 _ _ (t12 _ _ (t11 _ _ (t10 _ _ (tt _ _ (t1 _ _ hZ)))))
  obtain ⟨w1, w2, rfl, LB, hZ⟩ := h
  -- bad
  refine ⟨_, rfl, "a", 13, rfl, rfl, (by decide), (by decide), (by show 8 ≤ sizeLine; decide), fun O2 nO2 => ?_⟩
  have u1 := same_new (o := .lst (bads.map V.str)) nO2
  refine ⟨p, c, 53, _, rfl, (LB.same u1).pen, by omega, .inl ⟨O2, bads.map V.str, rfl, SqL.of upd_same, (by decide), (by decide), fun v hv J1 bj1 hpj1 => ?_⟩⟩
  obtain ⟨bad, hbad, rfl⟩ := List.mem_map.mp hv
  obtain ⟨bn, bo, bl⟩ := bads_all bad hbad
  have M1 := (LB.same u1).step bj1 hpj1
  -- the names and bad
  refine ⟨_, rfl, kt, _, rfl, .inr M1.kt, fun l1 nl1 => ?_⟩
  have u2 := same_new (o := .lst (ys.map V.str)) nl1
  refine ⟨_, rfl, (by show 1 ≤ sizeLine; decide), fun l2 nl2 => ?_⟩
  have u3 := same_new (o := .lst [.str bad]) nl2
  refine ⟨l1, l2, _, _, rfl, rfl, u3 _ _ upd_same, upd_same, by rw [List.length_map, sizeLine_eq]; show ys.length + 1 ≤ _; omega, fun q nq => ?_⟩
  have u4 := same_new (o := .lst (ys.map V.str ++ [.str bad])) nq
  have M4 := ((M1.same u2).same u3).same u4
  refine ⟨q, rfl, ⟨_, SqL.of upd_same⟩, ?_⟩
  refine for_list (xs := ys.map V.str ++ [.str bad]) (fun i σ H' => ∃ w10, σ = [some (.ref sa), some (.ref p), some (.ref W), some (.ref kt), some (.ref x), some (.int n), w1, w2, none, some (.str bad), w10, none, none, none] ∧ LS K CW CS p c W kt x ws ys H' 54 ∧ H' q = some (.lst (ys.map V.str ++ [.str bad])))
    ⟨none, rfl, M4, upd_same⟩ (fun i σ H' _ h => by obtain ⟨_, _, _, h⟩ := h; exact SqL.of h) (fun i v σ H' hi h => ?_) (fun σ H' h => ?_)
  · obtain ⟨w10, rfl, L, hq⟩ := h
    obtain ⟨z, rfl, hz⟩ : ∃ z, v = .str z ∧ (z ∈ ys ∨ z = bad) := by
      rcases List.mem_append.mp (List.mem_of_getElem? hi) with h | h
      · obtain ⟨y, hy, rfl⟩ := List.mem_map.mp h
        exact ⟨y, rfl, .inl hy⟩
      · exact ⟨bad, List.mem_singleton.mp h, .inr rfl⟩
    have zl : z.length ≤ 13 := by
      rcases hz with h | rfl
      · have := kn.sh z h
        omega
      · exact bl
    have zo : ∀ y ∈ [z], okS y = true := fun y hy => by
      rw [List.mem_singleton.mp hy]
      rcases hz with h | rfl
      · exact kn.ok z h
      · exact bo
    have zi : nameV (.str z) = true → inV (.str z) (ys.map V.str) = true := fun e => by
      rcases hz with h | rfl
      · exact in_true h
      · rw [bn] at e; cases e
    obtain ⟨dv, so, st, v0, v1, v2⟩ := id L.wl
    refine ⟨_, rfl, _, rfl, x, z, _, rfl, by omega, L.wl, flats ys, by rw [List.length_map]; omega, .inr ⟨zi, fun G1 l t1 hl => ?_⟩⟩
    refine ⟨_, rfl, (by show 1 ≤ sizeLine; decide), fun l2 nl2 => ?_⟩
    have t2 := same_new (o := .lst [.str z]) nl2
    refine ⟨.list ([z].map PyData.str), .list ([z].map PyData.str), .lst (SqL.of (t2 _ _ hl)) (dp_strs [z]), .lst (SqL.of upd_same) (dp_strs [z]), shaped_strsL zo, shaped_strsL zo, _, rfl, iteF' (by rw [eqv_listS]; simp) ?_⟩
    have L2 := (L.same t1).same t2
    refine ⟨_, rfl, _, rfl, x, dv, _, rfl, t2 _ _ (t1 _ _ v0), x, _, _, rfl, L2.wl, rfl, fun G3 t3 => ⟨false, rfl, _, rfl, iteF ?_⟩⟩
    exact ⟨_, rfl, L2.same t3, t3 _ _ (t2 _ _ (t1 _ _ hq))⟩
  obtain ⟨w10, rfl, LC, hq⟩ := h
  -- an item that is none
  have h7 : 7 < ws.length := by rw [gw.len]; decide
  have h8 : 8 < ws.length := by rw [gw.len]; decide
  have at7 : atI (ws.map V.str) 7 = some (.str ws[7]) := by
    show atI _ ((7 : Nat) : Int) = _
    exact atI_nat (by rw [List.getElem?_map, List.getElem?_eq_getElem h7]; rfl)
  have at8 : atI (ws.map V.str) 8 = some (.str ws[8]) := by
    show atI _ ((8 : Nat) : Int) = _
    exact atI_nat (by rw [List.getElem?_map, List.getElem?_eq_getElem h8]; rfl)
  have n7 := gw.nm ws[7] (List.getElem_mem h7)
  have l7 := gw.sh ws[7] (List.getElem_mem h7)
  have o7 := kn.out 7 (by decide) ws[7] (List.getElem?_eq_getElem h7)
  refine ⟨_, rfl, _, rfl, W, _, _, _, rfl, rfl, SqL.of LC.W, at7, ?_⟩
  refine ⟨x, ws[7], _, rfl, by omega, LC.wl, flats ys, by rw [List.length_map]; omega, .inl ⟨n7, in_false o7, fun J2 l t1 hl => ?_⟩⟩
  refine ⟨(by show 1 ≤ sizeLine; decide), fun l2 nl2 => ?_⟩
  have t2 := same_new (o := .lst [.str "none"]) nl2
  have zo : ∀ y ∈ (["none"] : List PySem.Str), okS y = true := by decide +kernel
  refine ⟨.list ((["none"] : List PySem.Str).map PyData.str), .list ((["none"] : List PySem.Str).map PyData.str), .lst (SqL.of (t2 _ _ hl)) (dp_strs ["none"]), .lst (SqL.of upd_same) (dp_strs ["none"]), shaped_strsL zo, shaped_strsL zo, _, rfl, iteF' (by rw [eqv_listS]; simp) ?_⟩
  have LD := (LC.same t1).same t2
  -- spot
  refine ⟨_, rfl, _, rfl, kt, _, rfl, .inr LD.kt, _, _, rfl, rfl, ?_⟩
  refine ⟨p, c, 54, _, rfl, by omega, by rw [List.length_map]; omega, LD.pen, by omega, fun spot J3 sp0 sp1 bj3 hpj3 => ?_⟩
  have LE := LD.step bj3 hpj3
  -- wrong
  refine ⟨_, rfl, _, rfl, (by show 3 ≤ sizeLine; decide), fun l3 nl3 => ?_⟩
  have t3 := same_new (o := .lst [.str bad, .int 7, .non]) nl3
  refine ⟨_, rfl, kt, _, rfl, .inr (LE.same t3).kt, fun l4 nl4 => ?_⟩
  have t4 := same_new (o := .lst (ys.map V.str)) nl4
  refine ⟨l3, l4, _, _, rfl, rfl, t4 _ _ upd_same, upd_same, by rw [List.length_map, sizeLine_eq]; show 3 + ys.length ≤ _; omega, fun l5 nl5 => ?_⟩
  have t5 := same_new (o := .lst ([.str bad, .int 7, .non] ++ ys.map V.str)) nl5
  have LF := ((LE.same t3).same t4).same t5
  refine ⟨p, c, 55, _, rfl, LF.pen, by omega, .inl ⟨l5, _, rfl, SqL.of upd_same, (by simp), (by simp; omega), fun wrong hwr J4 bj4 hpj4 => ?_⟩⟩
  have LG := LF.step bj4 hpj4
  have wfl : Flat wrong := by
    rcases List.mem_append.mp hwr with h | h
    · simp only [List.mem_cons, List.not_mem_nil, or_false] at h
      rcases h with rfl | rfl | rfl
      · exact .str _ (by omega)
      · exact .int _
      · exact .non
    · obtain ⟨y, hy, rfl⟩ := List.mem_map.mp h
      have := kn.sh y hy
      exact .str _ (by omega)
  have wbad : nameV wrong = true → wrong ∈ ys.map V.str := fun e => by
    rcases List.mem_append.mp hwr with h | h
    · simp only [List.mem_cons, List.not_mem_nil, or_false] at h
      rcases h with rfl | rfl | rfl
      · rw [bn] at e; cases e
      · cases e
      · cases e
    · exact h
  have tk : (ys.map V.str).take spot.toNat ++ [wrong] ++ (ys.map V.str).drop spot.toNat = (ys.map V.str).take spot.toNat ++ (wrong :: (ys.map V.str).drop spot.toNat) := by simp
  have yl : (ys.map V.str).length ≤ 4 := by rw [List.length_map]; exact kn.len
  -- the three wrong ones
  refine ⟨_, rfl, _, rfl, spot, rfl, slA_of LG.kt fun G1 q1 v1 h1 => ?_⟩
  refine ⟨_, rfl, (by show 1 ≤ sizeLine; decide), fun t2 nt2 => ?_⟩
  have v2 := same_new (o := .tup [wrong]) nt2
  refine catA_of (same_tup v2 h1) (.inl (.inl upd_same)) ?_ fun G3 q3 v3 h3 => ?_
  · have := cutV_length (ys.map V.str) none (some spot)
    rw [sizeLine_eq]
    show _ + 1 ≤ _
    omega
  have LH := ((LG.same v1).same v2).same v3
  refine ⟨_, rfl, _, rfl, spot, rfl, ?_⟩
  refine noPart ?_
  refine slA_of LH.kt fun G4 q4 v4 h4 => ?_
  refine catA_of (same_tup v4 h3) h4 ?_ fun G5 q5 v5 h5 => ?_
  · have e1 := cutV_length (ys.map V.str) none (some spot)
    have e2 := cutV_length (ys.map V.str) (some spot) none
    rw [sizeLine_eq, List.length_append]
    show _ + 1 + _ ≤ _
    omega
  rw [take_int _ sp0, drop_int _ sp0, tk] at h5
  have LI := (LH.same v4).same v5
  refine ⟨_, rfl, kt, _, rfl, .inr LI.kt, fun l6 nl6 => ?_⟩
  have v6 := same_new (o := .lst (ys.map V.str)) nl6
  refine ⟨_, rfl, W, _, _, _, rfl, rfl, SqL.of (v6 _ _ LI.W), at8, (by show 3 ≤ sizeLine; decide), fun Z3 nZ3 => ?_⟩
  have v7 := same_new (o := .tup [.ref q5, .ref l6, .str ws[8]]) nZ3
  have LJ := (LI.same v6).same v7
  have nonep : ∀ {b : Addr} {o : HO} {H' : Hp}, Pen H' p c 56 → H' b = none → b ≠ p := fun hp hb => by
    obtain ⟨kv, e⟩ := Pen.dk hp
    exact Ne.symm (ne_of_none e hb)
  refine ⟨Z3, rfl, ⟨_, .inl (.inl upd_same)⟩, ?_⟩
  refine for_tup (xs := [.ref q5, .ref l6, .str ws[8]]) (fun i σ H' => ∃ w13, σ = [some (.ref sa), some (.ref p), some (.ref W), some (.ref kt), some (.ref x), some (.int n), w1, w2, none, some (.str bad), w10, some (.int spot), some wrong, w13] ∧ LS K CW CS p c W kt x ws ys H' 56 ∧ SqT K H' Z3 [.ref q5, .ref l6, .str ws[8]] ∧ SqT K H' q5 ((ys.map V.str).take spot.toNat ++ (wrong :: (ys.map V.str).drop spot.toNat)) ∧ H' l6 = some (.lst (ys.map V.str)))
    ⟨none, rfl, LJ, .inl (.inl upd_same), same_tup (v6.trans v7) h5, v7 _ _ upd_same⟩ (fun i σ H' _ h => by obtain ⟨_, _, _, h, _⟩ := h; exact h) (fun i v σ H' hi h => ?_) (fun σ H' h => ?_)
  · obtain ⟨w13, rfl, L, hZ3, hq5, hl6⟩ := h
    have kv : Kn K H' v none := by
      have hv := List.mem_of_getElem? hi
      simp only [List.mem_cons, List.not_mem_nil, or_false] at hv
      rcases hv with rfl | rfl | rfl
      · refine .bad hq5 (fun y hy => ?_) ?_ (fun all nd => ?_)
        · rcases List.mem_append.mp hy with h | h
          · exact kn.flat y (List.mem_of_mem_take h)
          · rcases List.mem_cons.mp h with rfl | h
            · exact wfl
            · exact kn.flat y (List.mem_of_mem_drop h)
        · rw [List.length_append, List.length_take, List.length_cons, List.length_drop]
          omega
        · rw [List.all_append, List.all_cons, Bool.and_eq_true, Bool.and_eq_true] at all
          have hm := wbad all.2.1
          rw [← List.take_append_drop spot.toNat (ys.map V.str), List.mem_append] at hm
          rw [List.nodup_append] at nd
          rcases hm with h | h
          · exact nd.2.2 _ h _ (List.mem_cons_self ..) rfl
          · exact (List.nodup_cons.mp nd.2.1).1 h
      · exact .lst hl6
      · exact .txt _
    refine ⟨_, rfl, v, none, rfl, kv, fun _ G1 q t1 hq => ?_, fun xs h => nomatch h⟩
    refine ⟨(by show 0 ≤ sizeLine; decide), fun e ne => ?_⟩
    have t2 := same_new (o := .tup []) ne
    refine ⟨.tuple [], .tuple [], .tup (same_tup t2 hq) .nil, .tup (.inl (.inl upd_same)) .nil, shaped_nil, shaped_nil, _, rfl, iteF' (by rw [eqv_nil]; rfl) ?_⟩
    exact ⟨_, rfl, (L.same t1).same t2, same_tup (t1.trans t2) hZ3, same_tup (t1.trans t2) hq5, t2 _ _ (t1 _ _ hl6)⟩
  obtain ⟨w13, rfl, LK, _⟩ := h
  -- the end
  refine ⟨_, rfl, .ref kt, _, rfl, kn.kn LK.kt, (fun h => nomatch h), fun xs hxs G1 t1 => ⟨rfl, _, rfl, iteF' (by decide) ?_⟩⟩
  have LL := LK.same t1
  refine ⟨_, rfl, fun y dy ny ndy ne => ?_⟩
  have t2 := same_made (o := .ins CW dy []) ny ndy ne
  refine ⟨y, dy, .ref kt, _, rfl, upd_same, kn.kn (same_tup t2 LL.kt), (fun h => nomatch h), fun xs' hxs' G2 b2' hw2 => ⟨rfl, ?_⟩⟩
  obtain rfl := Option.some.inj hxs'
  have t3 := same_but t2 ny b2'
  have LM := LL.same t3
  obtain ⟨dv, so', st', v0', v1', v2'⟩ := id LM.wl
  obtain ⟨dy', so2, st2, y0, y1, y2⟩ := id hw2
  refine ⟨_, rfl, y, dy', _, rfl, y0, ⟨x, dv, _, rfl, v0'⟩, y, _, ys, rfl, hw2, kn.ok, .inl ⟨x, ys, rfl, LM.wl, kn.ok, fun G3 t4 => ⟨_, rfl, _, rfl, iteF' (by simp) ?_⟩⟩⟩
  have LN := LM.same t4
  refine ⟨_, rfl, _, rfl, x, dv, _, rfl, t4 _ _ v0', ⟨kt, _, rfl, LN.kt⟩, x, _, ys, rfl, LN.wl, kn.ok, .inr ⟨kt, _, rfl, LN.kt, fun G4 t5 => ⟨false, rfl, _, rfl, iteF ?_⟩⟩⟩
  have LO := LN.same t5
  refine ⟨_, rfl, kt, _, rfl, .inr LO.kt, _, _, rfl, rfl, _, rfl, ?_⟩
  rw [List.length_map]
  by_cases h2 : ys.length < 2
  · exact iteT' (decide_eq_true (by omega)) (k _)
  · refine iteF' (decide_eq_false (by omega)) ?_
    refine ⟨_, rfl, 1, rfl, ?_⟩
    refine noPart ?_
    refine slA_of LO.kt fun G5 a5 t6 h6 => ?_
    refine ⟨_, rfl, 1, rfl, slA_of (LO.same t6).kt fun G6 a6 t7 h7' => ?_⟩
    refine catA_of (same_tup t7 h6) h7' ?_ fun G7 a7 t8 h8' => ?_
    · have e1 := cutV_length (ys.map V.str) none (some 1)
      have e2 := cutV_length (ys.map V.str) (some 1) none
      rw [sizeLine_eq]
      omega
    have LP := ((LO.same t6).same t7).same t8
    rw [show (some (1 : Int)) = some ((1 : Nat) : Int) from rfl, cutV_drop, cutV_take, ← List.map_drop, ← List.map_take, ← List.map_append] at h8'
    have pr : (ys.drop 1 ++ ys.take 1).Perm ys := by
      refine List.perm_append_comm.trans ?_
      rw [List.take_append_drop]
    have kr := kn.perm pr
    intro y3 dy3 ny3 ndy3 ne3
    have t9 := same_made (o := .ins CW dy3 []) ny3 ndy3 ne3
    refine ⟨y3, dy3, .ref a7, _, rfl, upd_same, kr.kn (same_tup t9 h8'), (fun h => nomatch h), fun xs' hxs' G8 b8 hw8 => ⟨rfl, ?_⟩⟩
    obtain rfl := Option.some.inj hxs'
    have LQ := LP.same (same_but t9 ny3 b8)
    obtain ⟨dv3, so3, st3, v03, v13, v23⟩ := id LQ.wl
    obtain ⟨dz3, so4, st4, z0, z1, z2⟩ := id hw8
    refine ⟨_, rfl, y3, dz3, _, rfl, z0, ⟨x, dv3, _, rfl, v03⟩, y3, _, _, rfl, hw8, kr.ok, .inl ⟨x, ys, rfl, LQ.wl, kn.ok, fun G9 t10 => ?_⟩⟩
    refine ⟨_, rfl, ?_⟩
    rw [decide_eq_false (rot_ne kn.nd h2)]
    exact ⟨_, rfl, k _⟩
end
end GE
end
section
set_option Elab.async false
set_option linter.all false
set_option maxRecDepth 100000
set_option maxHeartbeats 0
noncomputable section
namespace HH
open PySem PySem.W PySem.Calls PyProof.Rows HK HD HF
def LOW : List Nat := [0, 1, 2, 3, 4, 5, 6, 7, 8, 9, 10, 11, 12]
def LO (w : World) : List Obj := (F14 w).take 13
def Kw (w : World) : Frag := KA.zip (GA w) ++ LOW.zip (LO w)
def alv (o : Obj) : Option Obj := match o with
  | ⟨_, _, .freed, _⟩ => none
  | o => some o
theorem get_eq (l : List Obj) (life : Life) (a : Addr) : (⟨l.toArray, life⟩ : Heap).get? a = (l[a]?).bind alv := by
  unfold Heap.get?
  rw [List.getElem?_toArray]
  cases e : l[a]? with
  | none => rfl
  | some o =>
    obtain ⟨c, d, dt, sl⟩ := o
    cases dt <;> rfl
theorem high (w : World) (os : OsState) (g : Nat → Obj) (a : Nat) (h : 15 ≤ a ∧ a < 2616) : (sE w os g).heap.get? a = alv (g a) := by
  show (⟨(F14 w ++ (List.range 2601).map fun i => g (15 + i)).toArray, (boot_heap w.params).life⟩ : Heap).get? a = _
  have hl : (F14 w).length = 15 := rfl
  rw [get_eq, List.getElem?_append_right (by omega), hl, List.getElem?_map, List.getElem?_range (by omega)]
  show alv (g (15 + (a - 15))) = _
  rw [show 15 + (a - 15) = a by omega]
theorem low (w : World) (os : OsState) (g : Nat → Obj) (a : Nat) (h : a < 15) : (sE w os g).heap.get? a = ((F14 w)[a]?).bind alv := by
  show (⟨(F14 w ++ (List.range 2601).map fun i => g (15 + i)).toArray, (boot_heap w.params).life⟩ : Heap).get? a = _
  have hl : (F14 w).length = 15 := rfl
  rw [get_eq, List.getElem?_append_left (by omega)]
theorem ka_in : (KA.all fun a => Nat.ble 15 a && Nat.ble (a + 1) 2616) = true := by kernel_rfl
theorem ga_alv (w : World) : (GA w).map alv = (GA w).map some := by kernel_rfl
theorem lo_alv (w : World) : (LOW.map fun a => ((F14 w)[a]?).bind alv) = (LO w).map some := by kernel_rfl
theorem k_keys (w : World) : KA ++ LOW = (Kw w).map (·.1) := by kernel_rfl
theorem k_vals (w : World) : (Kw w).map (fun p => some p.2) = (GA w).map some ++ (LO w).map some := by kernel_rfl
theorem yE (w : World) (os : OsState) (g : Nat → Obj) (e : KA.map g = GA w) : (KA ++ LOW).map (sE w os g).heap.get? = (Kw w).map fun p => some p.2 := by
  rw [k_vals, List.map_append]
  congr 1
  · rw [← ga_alv, ← e, List.map_map]
    refine List.map_congr_left fun a ha => ?_
    have z := List.all_eq_true.mp ka_in a ha
    rw [Bool.and_eq_true] at z
    exact high w os g a ⟨Nat.le_of_ble_eq_true z.1, Nat.le_of_ble_eq_true z.2⟩
end HH
end
end
section
set_option Elab.async false
set_option linter.all false
set_option maxRecDepth 100000
set_option maxHeartbeats 0
noncomputable section
namespace HI
open PySem PySem.W PySem.Calls PyProof.Rows HK HD HF HH
theorem f_FA_sWord (w : World) : ∃ fd, L2.Fun (Kw w) "is_word" "is_word" FA.sWord 469 fd := ⟨_, L2.fun_mk (oc := .type "function") (od := none) (an := none) (osl := #[]) (kV := .none) (doc := .none) (pm := .str "everyname.trees" 746) (cdv := .ref 468) (ct := .none) (by kernel_rfl) (by kernel_rfl) (by kernel_rfl)⟩
theorem f_FB_sName (w : World) : ∃ fd, L2.Fun (Kw w) "is_name" "is_name" FB.sName 476 fd := ⟨_, L2.fun_mk (oc := .type "function") (od := none) (an := none) (osl := #[]) (kV := .none) (doc := .none) (pm := .str "everyname.trees" 746) (cdv := .ref 475) (ct := .none) (by kernel_rfl) (by kernel_rfl) (by kernel_rfl)⟩
theorem f_FB_sStv (w : World) : ∃ fd, L2.Fun (Kw w) "state_variables" "state_variables" FB.sStv 550 fd := ⟨_, L2.fun_mk (oc := .type "function") (od := none) (an := none) (osl := #[]) (kV := .none) (doc := .none) (pm := .str "everyname.trees" 746) (cdv := .ref 549) (ct := .none) (by kernel_rfl) (by kernel_rfl) (by kernel_rfl)⟩
theorem f_FB_sSln (w : World) : ∃ fd, L2.Fun (Kw w) "statement_lines" "statement_lines" FB.sSln 770 fd := ⟨_, L2.fun_mk (oc := .type "function") (od := none) (an := none) (osl := #[]) (kV := .none) (doc := .none) (pm := .str "everyname.writing" 1306) (cdv := .ref 769) (ct := .none) (by kernel_rfl) (by kernel_rfl) (by kernel_rfl)⟩
theorem f_FC_sStart (w : World) : ∃ fd, L2.Fun (Kw w) "start" "start" FC.sStart 1806 fd := ⟨_, L2.fun_mk (oc := .type "function") (od := none) (an := none) (osl := #[]) (kV := .none) (doc := .none) (pm := .str "everyname.stretches" 2806) (cdv := .ref 1805) (ct := .none) (by kernel_rfl) (by kernel_rfl) (by kernel_rfl)⟩
theorem f_FC_sStock (w : World) : ∃ fd, L2.Fun (Kw w) "stock" "stock" FC.sStock 444 fd := ⟨_, L2.fun_mk (oc := .type "function") (od := none) (an := none) (osl := #[]) (kV := .none) (doc := .none) (pm := .str "everyname.engine" 564) (cdv := .ref 443) (ct := .none) (by kernel_rfl) (by kernel_rfl) (by kernel_rfl)⟩
theorem f_FC_sVal (w : World) : ∃ fd, L2.Fun (Kw w) "value_of" "value_of" FC.sVal 1709 fd := ⟨_, L2.fun_mk (oc := .type "function") (od := none) (an := none) (osl := #[]) (kV := .none) (doc := .none) (pm := .str "everyname.judging" 2636) (cdv := .ref 1708) (ct := .none) (by kernel_rfl) (by kernel_rfl) (by kernel_rfl)⟩
theorem f_FD_sRows (w : World) : ∃ fd, L2.Fun (Kw w) "value_rows" "value_rows" FD.sRows 1844 fd := ⟨_, L2.fun_mk (oc := .type "function") (od := none) (an := none) (osl := #[]) (kV := .none) (doc := .none) (pm := .str "everyname.stretches" 2806) (cdv := .ref 1843) (ct := .none) (by kernel_rfl) (by kernel_rfl) (by kernel_rfl)⟩
theorem f_FE_sVals (w : World) : ∃ fd, L2.Fun (Kw w) "values" "values" FE.sVals 1849 fd := ⟨_, L2.fun_mk (oc := .type "function") (od := none) (an := none) (osl := #[]) (kV := .none) (doc := .none) (pm := .str "everyname.stretches" 2806) (cdv := .ref 1848) (ct := .none) (by kernel_rfl) (by kernel_rfl) (by kernel_rfl)⟩
theorem f_FF_sRuled (w : World) : ∃ fd, L2.Fun (Kw w) "ruled_names" "ruled_names" FF.sRuled 2193 fd := ⟨_, L2.fun_mk (oc := .type "function") (od := none) (an := none) (osl := #[]) (kV := .none) (doc := .none) (pm := .str "everyname.guards" 3272) (cdv := .ref 2192) (ct := .none) (by kernel_rfl) (by kernel_rfl) (by kernel_rfl)⟩
theorem f_FF_sJoined (w : World) : ∃ fd, L2.Fun (Kw w) "joined" "joined" FF.sJoined 543 fd := ⟨_, L2.fun_mk (oc := .type "function") (od := none) (an := none) (osl := #[]) (kV := .none) (doc := .none) (pm := .str "everyname.trees" 746) (cdv := .ref 542) (ct := .none) (by kernel_rfl) (by kernel_rfl) (by kernel_rfl)⟩
theorem f_FF_sTrim (w : World) : ∃ fd, L2.Fun (Kw w) "trimmed" "trimmed" FF.sTrim 876 fd := ⟨_, L2.fun_mk (oc := .type "function") (od := none) (an := none) (osl := #[]) (kV := .none) (doc := .none) (pm := .str "everyname.sizes" 1500) (cdv := .ref 875) (ct := .none) (by kernel_rfl) (by kernel_rfl) (by kernel_rfl)⟩
theorem f_FF_sWhole (w : World) : ∃ fd, L2.Fun (Kw w) "whole_row" "whole_row" FF.sWhole 883 fd := ⟨_, L2.fun_mk (oc := .type "function") (od := none) (an := none) (osl := #[]) (kV := .none) (doc := .none) (pm := .str "everyname.sizes" 1500) (cdv := .ref 882) (ct := .none) (by kernel_rfl) (by kernel_rfl) (by kernel_rfl)⟩
theorem f_FF_sRowV (w : World) : ∃ fd, L2.Fun (Kw w) "row_value" "row_value" FF.sRowV 890 fd := ⟨_, L2.fun_mk (oc := .type "function") (od := none) (an := none) (osl := #[]) (kV := .none) (doc := .none) (pm := .str "everyname.sizes" 1500) (cdv := .ref 889) (ct := .none) (by kernel_rfl) (by kernel_rfl) (by kernel_rfl)⟩
theorem f_FH_sCR (w : World) : ∃ fd, L2.Fun (Kw w) "count_row" "count_row" FH.sCR 1639 fd := ⟨_, L2.fun_mk (oc := .type "function") (od := none) (an := none) (osl := #[]) (kV := .none) (doc := .none) (pm := .str "everyname.counts" 2517) (cdv := .ref 1638) (ct := .none) (by kernel_rfl) (by kernel_rfl) (by kernel_rfl)⟩
theorem f_FH_sNum (w : World) : ∃ fd, L2.Fun (Kw w) "number" "number" FH.sNum 1665 fd := ⟨_, L2.fun_mk (oc := .type "function") (od := none) (an := none) (osl := #[]) (kV := .none) (doc := .none) (pm := .str "everyname.showing" 2585) (cdv := .ref 1664) (ct := .none) (by kernel_rfl) (by kernel_rfl) (by kernel_rfl)⟩
theorem f_FH_sCA (w : World) : ∃ fd, L2.Fun (Kw w) "count_at" "count_at" FH.sCA 1672 fd := ⟨_, L2.fun_mk (oc := .type "function") (od := none) (an := none) (osl := #[]) (kV := .none) (doc := .none) (pm := .str "everyname.showing" 2585) (cdv := .ref 1671) (ct := .none) (by kernel_rfl) (by kernel_rfl) (by kernel_rfl)⟩
theorem f_FH_sTS (w : World) : ∃ fd, L2.Fun (Kw w) "tree_size" "tree_size" FH.sTS 1677 fd := ⟨_, L2.fun_mk (oc := .type "function") (od := none) (an := none) (osl := #[]) (kV := .none) (doc := .none) (pm := .str "everyname.showing" 2585) (cdv := .ref 1676) (ct := .none) (by kernel_rfl) (by kernel_rfl) (by kernel_rfl)⟩
theorem f_FH_sSh (w : World) : ∃ fd, L2.Fun (Kw w) "shown" "shown" FH.sSh 1687 fd := ⟨_, L2.fun_mk (oc := .type "function") (od := none) (an := none) (osl := #[]) (kV := .none) (doc := .none) (pm := .str "everyname.showing" 2585) (cdv := .ref 1686) (ct := .none) (by kernel_rfl) (by kernel_rfl) (by kernel_rfl)⟩
theorem f_FH_sSW (w : World) : ∃ fd, L2.Fun (Kw w) "shown_within" "shown_within" FH.sSW 1694 fd := ⟨_, L2.fun_mk (oc := .type "function") (od := none) (an := none) (osl := #[]) (kV := .none) (doc := .none) (pm := .str "everyname.showing" 2585) (cdv := .ref 1693) (ct := .none) (by kernel_rfl) (by kernel_rfl) (by kernel_rfl)⟩
theorem f_FH_sVA (w : World) : ∃ fd, L2.Fun (Kw w) "value_at" "value_at" FH.sVA 2091 fd := ⟨_, L2.fun_mk (oc := .type "function") (od := none) (an := none) (osl := #[]) (kV := .none) (doc := .none) (pm := .str "everyname.families" 2918) (cdv := .ref 2090) (ct := .none) (by kernel_rfl) (by kernel_rfl) (by kernel_rfl)⟩
theorem f_FI_sPT (w : World) : ∃ fd, L2.Fun (Kw w) "program_text" "program_text" FI.sPT 784 fd := ⟨_, L2.fun_mk (oc := .type "function") (od := none) (an := none) (osl := #[]) (kV := .none) (doc := .none) (pm := .str "everyname.writing" 1306) (cdv := .ref 783) (ct := .none) (by kernel_rfl) (by kernel_rfl) (by kernel_rfl)⟩
theorem f_FI_sPg (w : World) : ∃ fd, L2.Fun (Kw w) "page_text" "page_text" FI.sPg 2310 fd := ⟨_, L2.fun_mk (oc := .type "function") (od := none) (an := none) (osl := #[]) (kV := .none) (doc := .none) (pm := .str "everyname.pages" 3520) (cdv := .ref 2309) (ct := .none) (by kernel_rfl) (by kernel_rfl) (by kernel_rfl)⟩
theorem f_FO_sAF (w : World) : ∃ fd, L2.Fun (Kw w) "alike_families" "alike_families" FO.sAF 2296 fd := ⟨_, L2.fun_mk (oc := .type "function") (od := none) (an := none) (osl := #[]) (kV := .none) (doc := .none) (pm := .str "everyname.guards" 3272) (cdv := .ref 2295) (ct := .none) (by kernel_rfl) (by kernel_rfl) (by kernel_rfl)⟩
theorem f_FO_sAS (w : World) : ∃ fd, L2.Fun (Kw w) "alike_standings" "alike_standings" FO.sAS 2303 fd := ⟨_, L2.fun_mk (oc := .type "function") (od := none) (an := none) (osl := #[]) (kV := .none) (doc := .none) (pm := .str "everyname.guards" 3272) (cdv := .ref 2302) (ct := .none) (by kernel_rfl) (by kernel_rfl) (by kernel_rfl)⟩
theorem f_GA_sPen (w : World) : ∃ fd, L2.Fun (Kw w) "_law_pen" "_law_pen" GA.sPen 2570 fd := ⟨_, L2.fun_mk (oc := .type "function") (od := none) (an := none) (osl := #[]) (kV := .none) (doc := .none) (pm := .str "law_everyname_k73_worlds_begin_empty" 3876) (cdv := .ref 2569) (ct := .none) (by kernel_rfl) (by kernel_rfl) (by kernel_rfl)⟩
theorem f_GA_sDraw (w : World) : ∃ fd, L2.Fun (Kw w) "_law_draw" "_law_draw" GA.sDraw 2577 fd := ⟨_, L2.fun_mk (oc := .type "function") (od := none) (an := none) (osl := #[]) (kV := .none) (doc := .none) (pm := .str "law_everyname_k73_worlds_begin_empty" 3876) (cdv := .ref 2576) (ct := .none) (by kernel_rfl) (by kernel_rfl) (by kernel_rfl)⟩
theorem f_GB_sPick (w : World) : ∃ fd, L2.Fun (Kw w) "_law_pick" "_law_pick" GB.sPick 2584 fd := ⟨_, L2.fun_mk (oc := .type "function") (od := none) (an := none) (osl := #[]) (kV := .none) (doc := .none) (pm := .str "law_everyname_k73_worlds_begin_empty" 3876) (cdv := .ref 2583) (ct := .none) (by kernel_rfl) (by kernel_rfl) (by kernel_rfl)⟩
theorem f_GB_sShuf (w : World) : ∃ fd, L2.Fun (Kw w) "_law_shuffled" "_law_shuffled" GB.sShuf 2591 fd := ⟨_, L2.fun_mk (oc := .type "function") (od := none) (an := none) (osl := #[]) (kV := .none) (doc := .none) (pm := .str "law_everyname_k73_worlds_begin_empty" 3876) (cdv := .ref 2590) (ct := .none) (by kernel_rfl) (by kernel_rfl) (by kernel_rfl)⟩
theorem f_GC_sWords (w : World) : ∃ fd, L2.Fun (Kw w) "_law_words" "_law_words" GC.sWords 2596 fd := ⟨_, L2.fun_mk (oc := .type "function") (od := none) (an := none) (osl := #[]) (kV := .none) (doc := .none) (pm := .str "law_everyname_k73_worlds_begin_empty" 3876) (cdv := .ref 2595) (ct := .none) (by kernel_rfl) (by kernel_rfl) (by kernel_rfl)⟩
theorem f_GD_sErr (w : World) : ∃ fd, L2.Fun (Kw w) "_law_error" "_law_error" GD.sErr 2603 fd := ⟨_, L2.fun_mk (oc := .type "function") (od := none) (an := none) (osl := #[]) (kV := .none) (doc := .none) (pm := .str "law_everyname_k73_worlds_begin_empty" 3876) (cdv := .ref 2602) (ct := .none) (by kernel_rfl) (by kernel_rfl) (by kernel_rfl)⟩
theorem f_GD_sItem (w : World) : ∃ fd, L2.Fun (Kw w) "_law_item_error" "_law_item_error" GD.sItem 2610 fd := ⟨_, L2.fun_mk (oc := .type "function") (od := none) (an := none) (osl := #[]) (kV := .none) (doc := .none) (pm := .str "law_everyname_k73_worlds_begin_empty" 3876) (cdv := .ref 2609) (ct := .none) (by kernel_rfl) (by kernel_rfl) (by kernel_rfl)⟩
theorem f_GE_sLaw (w : World) : ∃ fd, L2.Fun (Kw w) "law" "law" GE.sLaw 2615 fd := ⟨_, L2.fun_mk (oc := .type "function") (od := none) (an := none) (osl := #[]) (kV := .none) (doc := .none) (pm := .str "law_everyname_k73_worlds_begin_empty" 3876) (cdv := .ref 2614) (ct := .none) (by kernel_rfl) (by kernel_rfl) (by kernel_rfl)⟩
theorem f_FL_sSI (w : World) : ∃ fd, L2.Fun (Kw w) "__init__" "Standing.__init__" FL.sSI 2153 fd := ⟨_, L2.fun_mk (oc := .type "function") (od := none) (an := none) (osl := #[]) (kV := .none) (doc := .none) (pm := .str "everyname.guards" 3272) (cdv := .ref 2152) (ct := .none) (by kernel_rfl) (by kernel_rfl) (by kernel_rfl)⟩
theorem f_FN_sFn (w : World) : ∃ fd, L2.Fun (Kw w) "count" "Family.count" FN.sFn 1903 fd := ⟨_, L2.fun_mk (oc := .type "function") (od := none) (an := none) (osl := #[]) (kV := .none) (doc := .none) (pm := .str "everyname.families" 2918) (cdv := .ref 1902) (ct := .none) (by kernel_rfl) (by kernel_rfl) (by kernel_rfl)⟩
theorem f_FN_sNames (w : World) : ∃ fd, L2.Fun (Kw w) "names" "World.names" FN.sNames 2398 fd := ⟨_, L2.fun_mk (oc := .type "function") (od := none) (an := none) (osl := #[]) (kV := .none) (doc := .none) (pm := .str "everyname.world" 3613) (cdv := .ref 2397) (ct := .none) (by kernel_rfl) (by kernel_rfl) (by kernel_rfl)⟩
theorem f_FN_sPage (w : World) : ∃ fd, L2.Fun (Kw w) "page" "World.page" FN.sPage 2406 fd := ⟨_, L2.fun_mk (oc := .type "function") (od := none) (an := none) (osl := #[]) (kV := .none) (doc := .none) (pm := .str "everyname.world" 3613) (cdv := .ref 2405) (ct := .none) (by kernel_rfl) (by kernel_rfl) (by kernel_rfl)⟩
theorem f_FN_sAll (w : World) : ∃ fd, L2.Fun (Kw w) "allowed" "World.allowed" FN.sAll 2414 fd := ⟨_, L2.fun_mk (oc := .type "function") (od := none) (an := none) (osl := #[]) (kV := .none) (doc := .none) (pm := .str "everyname.world" 3613) (cdv := .ref 2413) (ct := .none) (by kernel_rfl) (by kernel_rfl) (by kernel_rfl)⟩
theorem f_FN_sVs (w : World) : ∃ fd, L2.Fun (Kw w) "values_at" "World.values_at" FN.sVs 2509 fd := ⟨_, L2.fun_mk (oc := .type "function") (od := none) (an := none) (osl := #[]) (kV := .none) (doc := .none) (pm := .str "everyname.world" 3613) (cdv := .ref 2508) (ct := .none) (by kernel_rfl) (by kernel_rfl) (by kernel_rfl)⟩
theorem f_FN_sLen (w : World) : ∃ fd, L2.Fun (Kw w) "__len__" "World.__len__" FN.sLen 2516 fd := ⟨_, L2.fun_mk (oc := .type "function") (od := none) (an := none) (osl := #[]) (kV := .none) (doc := .none) (pm := .str "everyname.world" 3613) (cdv := .ref 2515) (ct := .none) (by kernel_rfl) (by kernel_rfl) (by kernel_rfl)⟩
theorem f_FN_sIn (w : World) : ∃ fd, L2.Fun (Kw w) "__contains__" "World.__contains__" FN.sIn 2528 fd := ⟨_, L2.fun_mk (oc := .type "function") (od := none) (an := none) (osl := #[]) (kV := .none) (doc := .none) (pm := .str "everyname.world" 3613) (cdv := .ref 2527) (ct := .none) (by kernel_rfl) (by kernel_rfl) (by kernel_rfl)⟩
theorem f_FO_sGI (w : World) : ∃ fd, L2.Fun (Kw w) "__getitem__" "World.__getitem__" FO.sGI 2535 fd := ⟨_, L2.fun_mk (oc := .type "function") (od := none) (an := none) (osl := #[]) (kV := .none) (doc := .none) (pm := .str "everyname.world" 3613) (cdv := .ref 2534) (ct := .none) (by kernel_rfl) (by kernel_rfl) (by kernel_rfl)⟩
theorem f_FO_sEq (w : World) : ∃ fd, L2.Fun (Kw w) "__eq__" "World.__eq__" FO.sEq 2549 fd := ⟨_, L2.fun_mk (oc := .type "function") (od := none) (an := none) (osl := #[]) (kV := .none) (doc := .none) (pm := .str "everyname.world" 3613) (cdv := .ref 2548) (ct := .none) (by kernel_rfl) (by kernel_rfl) (by kernel_rfl)⟩
theorem f_FB_sWrong (w : World) : ∃ fd, L2.FunD (Kw w) "wrong_place" "wrong_place" (L2.defArgs FB.sWrong) (L2.defBody FB.sWrong) (L2.defScope FB.sWrong) [.ref 521, .int 1] [] 529 fd := ⟨_, ⟨.type "function", none, .ref 522, .none, .none, .str "everyname.trees" 746, none, .ref 528, .none, #[], rfl, (by kernel_rfl), (by kernel_rfl), .inr ⟨by simp, 522, ⟨.type "tuple", none, .seq #[.ref 521, .int 1 919] 0, #[]⟩, [.ref 521, .int 1 919], 0, rfl, (by kernel_rfl), rfl, .cons rfl (.cons ⟨_, rfl⟩ .nil)⟩, .inl rfl⟩, (by kernel_rfl)⟩
theorem f_FJ_sPI (w : World) : ∃ fd, L2.FunD (Kw w) "__init__" "Program.__init__" (L2.defArgs FJ.sPI) (L2.defBody FJ.sPI) (L2.defScope FJ.sPI) [.ref 792, .ref 793] [] 799 fd := ⟨_, ⟨.type "function", none, .ref 794, .none, .none, .str "everyname.programs" 1400, none, .ref 798, .none, #[], rfl, (by kernel_rfl), (by kernel_rfl), .inr ⟨by simp, 794, ⟨.type "tuple", none, .seq #[.ref 792, .ref 793] 0, #[]⟩, [.ref 792, .ref 793], 0, rfl, (by kernel_rfl), rfl, .cons rfl (.cons rfl .nil)⟩, .inl rfl⟩, (by kernel_rfl)⟩
theorem f_FN_sFI (w : World) : ∃ fd, L2.FunD (Kw w) "__init__" "Family.__init__" (L2.defArgs FN.sFI) (L2.defBody FN.sFI) (L2.defScope FN.sFI) [.non] [] 1878 fd := ⟨_, ⟨.type "function", none, .ref 1873, .none, .none, .str "everyname.families" 2918, none, .ref 1877, .none, #[], rfl, (by kernel_rfl), (by kernel_rfl), .inr ⟨by simp, 1873, ⟨.type "tuple", none, .seq #[.none] 0, #[]⟩, [.none], 0, rfl, (by kernel_rfl), rfl, .cons rfl .nil⟩, .inl rfl⟩, (by kernel_rfl)⟩
theorem f_FN_sFC (w : World) : ∃ fd, L2.FunD (Kw w) "__call__" "Family.__call__" (L2.defArgs FN.sFC) (L2.defBody FN.sFC) (L2.defScope FN.sFC) [.int 200] [] 1896 fd := ⟨_, ⟨.type "function", none, .ref 1889, .none, .none, .str "everyname.families" 2918, none, .ref 1895, .none, #[], rfl, (by kernel_rfl), (by kernel_rfl), .inr ⟨by simp, 1889, ⟨.type "tuple", none, .seq #[.int 200 2967] 0, #[]⟩, [.int 200 2967], 0, rfl, (by kernel_rfl), rfl, .cons ⟨_, rfl⟩ .nil⟩, .inl rfl⟩, (by kernel_rfl)⟩
theorem f_FM_sWI (w : World) : ∃ fd, L2.FunD (Kw w) "__init__" "World.__init__" (L2.defArgs FM.sWI) (L2.defBody FM.sWI) (L2.defScope FM.sWI) [.ref 2373] [] 2381 fd := ⟨_, ⟨.type "function", none, .ref 2374, .none, .none, .str "everyname.world" 3613, none, .ref 2380, .none, #[], rfl, (by kernel_rfl), (by kernel_rfl), .inr ⟨by simp, 2374, ⟨.type "tuple", none, .seq #[.ref 2373] 0, #[]⟩, [.ref 2373], 0, rfl, (by kernel_rfl), rfl, .cons rfl .nil⟩, .inl rfl⟩, (by kernel_rfl)⟩
theorem cls (w : World) : L2.Cls (Kw w) 2552 ∧ L2.Cls (Kw w) 2156 ∧ L2.Cls (Kw w) 2062 ∧ L2.Cls (Kw w) 848 :=
  ⟨⟨by kernel_rfl, by kernel_rfl, by kernel_rfl, by kernel_rfl⟩, ⟨by kernel_rfl, by kernel_rfl, by kernel_rfl, by kernel_rfl⟩, ⟨by kernel_rfl, by kernel_rfl, by kernel_rfl, by kernel_rfl⟩, ⟨by kernel_rfl, by kernel_rfl, by kernel_rfl, by kernel_rfl⟩⟩
theorem na_of {K : Frag} {C : Addr} {fs : List Str} (h : (fs.all fun f => match findIn K (.ref C) f with | some none => true | _ => false) = true) : ∀ f ∈ fs, L2.NoAttr K C f := fun f hf => by
  have z := List.all_eq_true.mp h f hf
  show findIn K (.ref C) f = some none
  revert z
  cases e : findIn K (.ref C) f with
  | none => intro z; cases z
  | some o =>
    cases o with
    | none => intro _; rfl
    | some v => intro z; cases z
theorem cfW (w : World) : FF.Cf (Kw w) 2552 ["standings", "floor"] := ⟨(cls w).1, na_of (by kernel_rfl)⟩
theorem cfS (w : World) : FF.Cf (Kw w) 2156 FO.sf := ⟨(cls w).2.1, na_of (by kernel_rfl)⟩
theorem cfF (w : World) : FF.Cf (Kw w) 2062 ["known", "rows"] := ⟨(cls w).2.2.1, na_of (by kernel_rfl)⟩
theorem cfP (w : World) : FF.Cf (Kw w) 848 ["known", "statements", "variables"] := ⟨(cls w).2.2.2, na_of (by kernel_rfl)⟩
theorem mkW (w : World) : L2.Mk (Kw w) 2552 2381 := ⟨by kernel_rfl, by kernel_rfl, by kernel_rfl, by kernel_rfl⟩
theorem mkS (w : World) : L2.Mk (Kw w) 2156 2153 := ⟨by kernel_rfl, by kernel_rfl, by kernel_rfl, by kernel_rfl⟩
theorem mkF (w : World) : L2.Mk (Kw w) 2062 1878 := ⟨by kernel_rfl, by kernel_rfl, by kernel_rfl, by kernel_rfl⟩
theorem mkP (w : World) : L2.Mk (Kw w) 848 799 := ⟨by kernel_rfl, by kernel_rfl, by kernel_rfl, by kernel_rfl⟩
theorem prN (w : World) : L2.PropOf (Kw w) 2552 "names" 2399 2398 := ⟨by kernel_rfl, by kernel_rfl, by kernel_rfl, [.none, .none, .none, .str "names" 3668, .bool false], by kernel_rfl⟩
theorem prP (w : World) : L2.PropOf (Kw w) 2552 "page" 2407 2406 := ⟨by kernel_rfl, by kernel_rfl, by kernel_rfl, [.none, .none, .none, .str "page" 3676, .bool false], by kernel_rfl⟩
theorem prA (w : World) : L2.PropOf (Kw w) 2552 "allowed" 2415 2414 := ⟨by kernel_rfl, by kernel_rfl, by kernel_rfl, [.none, .none, .none, .str "allowed" 3684, .bool false], by kernel_rfl⟩
theorem meV (w : World) : L2.Meth (Kw w) 2552 "values_at" 2509 := ⟨by kernel_rfl, by kernel_rfl, by kernel_rfl⟩
theorem meC (w : World) : L2.Meth (Kw w) 2062 "count" 1903 := ⟨by kernel_rfl, by kernel_rfl, by kernel_rfl⟩
theorem coF (w : World) : StX.CallO (Kw w) 2062 1896 := ⟨by kernel_rfl, by kernel_rfl, by kernel_rfl⟩
theorem isW (w : World) : FO.IsiC (Kw w) 2552 := ⟨(cls w).1, by kernel_rfl, by kernel_rfl, by kernel_rfl, by kernel_rfl, by kernel_rfl, by kernel_rfl, by kernel_rfl⟩
theorem nf1 (w : World) : notFirst (Kw w) 2552 (.ref 2552) = true := by kernel_rfl
theorem nf2 (w : World) : notFirst (Kw w) 2552 (.type "tuple") = true := by kernel_rfl
theorem own_facts (w : World) : (findIn (Kw w) (.ref 2552) "__len__" = some (some (.ref 2516)) ∧ isFn (Kw w) (.ref 2516) = true ∧ fnIn (Kw w) 2516 = true) ∧ (findIn (Kw w) (.ref 2552) "__contains__" = some (some (.ref 2528)) ∧ isFn (Kw w) (.ref 2528) = true ∧ fnIn (Kw w) 2528 = true) ∧
    (findIn (Kw w) (.ref 2552) "__getitem__" = some (some (.ref 2535)) ∧ isFn (Kw w) (.ref 2535) = true ∧ fnIn (Kw w) 2535 = true) ∧ (findIn (Kw w) (.ref 2552) "__eq__" = some (some (.ref 2549)) ∧ isFn (Kw w) (.ref 2549) = true ∧ fnIn (Kw w) 2549 = true) :=
  ⟨⟨by kernel_rfl, by kernel_rfl, by kernel_rfl⟩, ⟨by kernel_rfl, by kernel_rfl, by kernel_rfl⟩, ⟨by kernel_rfl, by kernel_rfl, by kernel_rfl⟩, ⟨by kernel_rfl, by kernel_rfl, by kernel_rfl⟩⟩
theorem exB (w : World) : exmOne (Kw w) (.ref 53) (.ref 53) = some true := by kernel_rfl
theorem exN (w : World) : exmOne (Kw w) (.ref 212) (.ref 212) = some true := by kernel_rfl
theorem tup_res (w : World) : ∀ H, L2.SqT (Kw w) H 445 FB.resV := fun H => .inr ⟨_, _, _, (show (Kw w).lookup 445 = some ⟨.type "tuple", none, .seq #[.str "all" 748, .str "and" 749, .str "count" 750, .str "else" 751, .str "every" 752, .str "for" 753, .str "if" 754, .str "in" 755, .str "join" 756, .str "known" 757, .str "not" 758, .str "or" 759, .str "pass" 760, .str "some" 761, .str "true" 762, .str "while" 763] 0, #[]⟩ by kernel_rfl), rfl, rfl, by show 16 ≤ sizeLine; decide,
  .cons ⟨_, rfl⟩ (.cons ⟨_, rfl⟩ (.cons ⟨_, rfl⟩ (.cons ⟨_, rfl⟩ (.cons ⟨_, rfl⟩ (.cons ⟨_, rfl⟩ (.cons ⟨_, rfl⟩ (.cons ⟨_, rfl⟩ (.cons ⟨_, rfl⟩ (.cons ⟨_, rfl⟩ (.cons ⟨_, rfl⟩ (.cons ⟨_, rfl⟩ (.cons ⟨_, rfl⟩ (.cons ⟨_, rfl⟩ (.cons ⟨_, rfl⟩ (.cons ⟨_, rfl⟩ .nil)))))))))))))))⟩
theorem tup_nil {K : Frag} {a : Addr} (h : K.lookup a = some ⟨.type "tuple", none, .seq #[] 0, #[]⟩) : ∀ H, L2.SqT K H a [] := fun H => .inr ⟨_, _, _, h, rfl, rfl, by show 0 ≤ sizeLine; decide, .nil⟩
theorem tup_e (w : World) : ∀ H, L2.SqT (Kw w) H 439 [.str "set", .ref 437, .ref 438] := fun H => .inr ⟨_, _, _, (show (Kw w).lookup 439 = some ⟨.type "tuple", none, .seq #[.str "set" 738, .ref 437, .ref 438] 0, #[]⟩ by kernel_rfl), rfl, rfl, by show 3 ≤ sizeLine; decide, .cons ⟨_, rfl⟩ (.cons rfl (.cons rfl .nil))⟩
theorem tup_793 (w : World) : ∀ H, L2.SqT (Kw w) H 793 [] := tup_nil (by kernel_rfl)
theorem tup_437 (w : World) : ∀ H, L2.SqT (Kw w) H 437 [] := tup_nil (by kernel_rfl)
theorem tup_438 (w : World) : ∀ H, L2.SqT (Kw w) H 438 [] := tup_nil (by kernel_rfl)
end HI
end
end
section
set_option Elab.async false
set_option linter.all false
set_option maxRecDepth 100000
set_option maxHeartbeats 4000000
noncomputable section
namespace HJ
open PySem PySem.W PySem.Calls PyProof.Rows HK HD HF HH HI
noncomputable abbrev TW : Program := PySem.W.Fast.tw10313853756172224601
noncomputable abbrev iB : Stmt := kidA (stA TW 3) 0
noncomputable abbrev iN : Stmt := kidA (stA TW 11) 0
theorem iniB : PySem.EXS.IniTxt "place" "BadProgram.__init__" (dPar iB) (dBody iB) (dScope iB) where
  bind := fun doc pm an cdv ct a b cc => rfl
  cell := by decide +kernel
  loc := ⟨rfl, rfl, rfl, rfl⟩
  kind := ⟨rfl, rfl, rfl⟩
  par := ⟨_, rfl, rfl⟩
  bd := ⟨_, _, _, _, _, _, _, _, _, _, _, _, _, rfl, fun L a cc cd => ⟨rfl, rfl, rfl, rfl, rfl⟩⟩
theorem iniN : PySem.EXS.IniTxt "name" "BadName.__init__" (dPar iN) (dBody iN) (dScope iN) where
  bind := fun doc pm an cdv ct a b cc => rfl
  cell := by decide +kernel
  loc := ⟨rfl, rfl, rfl, rfl⟩
  kind := ⟨rfl, rfl, rfl⟩
  par := ⟨_, rfl, rfl⟩
  bd := ⟨_, _, _, _, _, _, _, _, _, _, _, _, _, rfl, fun L a cc cd => ⟨rfl, rfl, rfl, rfl, rfl⟩⟩
section
variable {w : World} {h : Heap} {mg : Str → Option Value}
theorem supB (X : (Kw w).In h) (G : h.Ns mainGlobals mg) : PySem.EXS.SupTxt TW (Kw w) mg "BadProgram" "place" 53 50 where
  gC := mg_of X G (by kernel_rfl)
  cls := ⟨"BadProgram", "BadProgram", 52, [.ref 31], [.ref 31, .type "ValueError", .type "Exception", .type "BaseException", .type "object"], [], [], false, none, none, some (.ref 35), none, some (.str "BadProgram" 214), some (.str "BadProgram" 222), some (.bool true), by kernel_rfl, by decide +kernel, [.ref 31, .type "ValueError", .type "Exception", .type "BaseException", .type "object"], by kernel_rfl, by kernel_rfl⟩
  sa := by kernel_rfl
  ga := by kernel_rfl
  gg := by kernel_rfl
  noN := by kernel_rfl
  iC := by kernel_rfl
  tC := by kernel_rfl
  kC := by kernel_rfl
  exC := by kernel_rfl
  veC := by kernel_rfl
  ownC := by kernel_rfl
  tyC := by kernel_rfl
  hdC := by kernel_rfl
  tp := by kernel_rfl
  noS := mg_none_of X G (by kernel_rfl)
  topS := by kernel_rfl
  neS := by decide
  fn := ⟨.type "function", none, "BadProgram.__init__", dPar iB, dBody iB, dScope iB, .none, .str "everyname.errors" 194, none, 49, 38, .ref 43, #[], .type "code", .type "cell", none, none, _, #[], #[], "/claim/cut.py", 228, by kernel_rfl, by kernel_rfl, iniB,
    (show (Kw w).lookup 49 = some ⟨.type "code", none, .fields #[.str "__init__" 226, .str "BadProgram.__init__" 227, .str "/claim/cut.py" 228, .int 9 0, .int 2 0, .int 0 0, .int 0 0, .int 3 0, .ref 44, .bool true, .int 181 0, .ref 45, .none, .ref 46, .ref 47, .ref 48, .int 232 0, .int 9 0, .str "/claim/cut.py" 233], #[]⟩ by kernel_rfl), rfl, by kernel_rfl, by kernel_rfl⟩
theorem supN (X : (Kw w).In h) (G : h.Ns mainGlobals mg) : PySem.EXS.SupTxt TW (Kw w) mg "BadName" "name" 212 209 where
  gC := mg_of X G (by kernel_rfl)
  cls := ⟨"BadName", "BadName", 211, [.ref 31], [.ref 31, .type "ValueError", .type "Exception", .type "BaseException", .type "object"], [], [], false, none, none, some (.ref 194), none, some (.str "BadName" 421), some (.str "BadName" 429), some (.bool true), by kernel_rfl, by decide +kernel, [.ref 31, .type "ValueError", .type "Exception", .type "BaseException", .type "object"], by kernel_rfl, by kernel_rfl⟩
  sa := by kernel_rfl
  ga := by kernel_rfl
  gg := by kernel_rfl
  noN := by kernel_rfl
  iC := by kernel_rfl
  tC := by kernel_rfl
  kC := by kernel_rfl
  exC := by kernel_rfl
  veC := by kernel_rfl
  ownC := by kernel_rfl
  tyC := by kernel_rfl
  hdC := by kernel_rfl
  tp := by kernel_rfl
  noS := mg_none_of X G (by kernel_rfl)
  topS := by kernel_rfl
  neS := by decide
  fn := ⟨.type "function", none, "BadName.__init__", dPar iN, dBody iN, dScope iN, .none, .str "everyname.errors" 194, none, 208, 197, .ref 202, #[], .type "code", .type "cell", none, none, _, #[], #[], "/claim/cut.py", 435, by kernel_rfl, by kernel_rfl, iniN,
    (show (Kw w).lookup 208 = some ⟨.type "code", none, .fields #[.str "__init__" 433, .str "BadName.__init__" 434, .str "/claim/cut.py" 435, .int 47 0, .int 2 0, .int 0 0, .int 0 0, .int 3 0, .ref 203, .bool true, .int 181 0, .ref 204, .none, .ref 205, .ref 206, .ref 207, .int 439 0, .int 47 0, .str "/claim/cut.py" 440], #[]⟩ by kernel_rfl), rfl, by kernel_rfl, by kernel_rfl⟩
end
end HJ
end
end
section
set_option Elab.async false
set_option linter.all false
set_option maxRecDepth 100000
set_option maxHeartbeats 4000000
noncomputable section
namespace HM
open PySem PySem.Spec PyProof.Rows HH HI HJ L2
section
variable {P : Program} {w : World} {K : PySem.W.Frag} {mg : PySem.Str → Option Value} {base : Heap} {CX : CXT} {k : Nat} {x qual : PySem.Str} {st : Stmt} {f C p : Addr} {ps : List PySem.Str} {sp : Sp} {fd : FuncData} {dvs : List V}
theorem raw0 (F : FnOk P w K mg base CX k f fd ps sp) (hb : Binds K fd ps []) : FnR P w K mg base CX k f sp := (F.raw hb .nil).imp fun vs H Q E h => by
  rw [List.append_nil]
  exact h
theorem calOf (F : ∃ fd, L2.Fun K x qual st f fd) (ok : ∀ fd, L2.Fun K x qual st f fd → FnOk P w K mg base CX k f fd ps sp) (hb : ∀ fd, L2.Fun K x qual st f fd → Binds K fd ps []) (hm : mg x = some (.ref f)) : FK.Cal P w K mg base CX k x sp := by
  obtain ⟨fd, F⟩ := F
  exact ⟨f, raw0 (ok fd F) (hb fd F), hm, F.kp⟩
theorem calPOf (F : ∃ fd, L2.Fun K x qual st f fd) (ok : ∀ fd, L2.Fun K x qual st f fd → FnOk P w K mg base CX k f fd ps sp) (hb : ∀ fd, L2.Fun K x qual st f fd → Binds K fd ps []) (hp : PropOf K C x p f) : FK.CalP P w K mg base CX k C x sp := by
  obtain ⟨fd, F⟩ := F
  exact ⟨p, f, fd, ps, ok fd F, hb fd F, hp⟩
theorem calMOf (F : ∃ fd, L2.Fun K x qual st f fd) (ok : ∀ fd, L2.Fun K x qual st f fd → FnOk P w K mg base CX k f fd ps sp) (hb : ∀ fd, L2.Fun K x qual st f fd → Binds K fd ps []) (hm : Meth K C x f) : FK.CalM P w K mg base CX k C x sp := by
  obtain ⟨fd, F⟩ := F
  exact ⟨f, raw0 (ok fd F) (hb fd F), hm⟩
theorem ownOf (F : ∃ fd, L2.Fun K x qual st f fd) (ok : ∀ fd, L2.Fun K x qual st f fd → FnOk P w K mg base CX k f fd ps sp) (hb : ∀ fd, L2.Fun K x qual st f fd → Binds K fd ps []) (h : PySem.W.findIn K (.ref C) x = some (some (.ref f)) ∧ PySem.W.isFn K (.ref f) = true ∧ PySem.W.fnIn K f = true) : GD.Own P w K mg base CX k C x sp := by
  obtain ⟨fd, F⟩ := F
  exact ⟨f, fd, ps, ok fd F, hb fd F, h.1, h.2.1, h.2.2⟩
theorem calCOf (F : ∃ fd, L2.Fun K x qual st f fd) (ok : ∀ fd, L2.Fun K x qual st f fd → FnOk P w K mg base CX k f fd ps sp) (hb : ∀ fd, L2.Fun K x qual st f fd → Binds K fd ps []) (hM : Mk K C f) {y : PySem.Str} (hm : mg y = some (.ref C)) : FK.CalC P w K mg base CX k y C sp := by
  obtain ⟨fd, F⟩ := F
  exact ⟨f, raw0 (ok fd F) (hb fd F), hM, hm⟩
theorem bt_of {h : Heap} (X : K.In h) (G : h.Ns mainGlobals mg) {l : List PySem.Str} (z : (l.all fun x => match PySem.W.nsIn K mainGlobals x with | some none => true | _ => false) = true) : ∀ x ∈ l, mg x = none := fun x hx => by
  have q := List.all_eq_true.mp z x hx
  refine PySem.W.mg_none_of X G ?_
  revert q
  cases e : PySem.W.nsIn K mainGlobals x with
  | none => intro q; cases q
  | some o =>
    cases o with
    | none => intro _; rfl
    | some v => intro q; cases q
end
theorem law_of (w : World) {h : Heap} {mg : PySem.Str → Option Value} (X : (Kw w).In h) (G : h.Ns mainGlobals mg) (base : Heap) : GE.LawT TW w (Kw w) mg base 2552 2156 2062 53 212 439 := by
  have B : FA.Bt mg := bt_of X G (by kernel_rfl)
  have Em : FC.Emp (Kw w) mg 439 437 438 := ⟨PySem.W.mg_of X G (by kernel_rfl), tup_e w, tup_437 w, tup_438 w⟩
  have g : ∀ {x : PySem.Str} {v : Value}, PySem.W.nsIn (Kw w) mainGlobals x = some (some v) → mg x = some v := fun e => PySem.W.mg_of X G e
  have SB := supB X G
  have SN := supN X G
  have cWord : FK.Cal TW w (Kw w) mg base CX0 1 "is_word" FA.spWord := calOf (f_FA_sWord w) (fun fd F => FA.okWord F B) (fun fd F => F.binds (fun _ _ _ _ _ _ us hl => match us, hl with | [_], _ => rfl)) (g (by kernel_rfl))
  have cName : FK.Cal TW w (Kw w) mg base CX0 2 "is_name" FB.spName := calOf (f_FB_sName w) (fun fd F => FB.okName F cWord (g (by kernel_rfl)) (tup_res w)) (fun fd F => F.binds (fun _ _ _ _ _ _ us hl => match us, hl with | [_], _ => rfl)) (g (by kernel_rfl))
  have cWrong : FK.Cal TW w (Kw w) mg base CX0 1 "wrong_place" (fun vs H Q E => FB.spWrong (Kw w) (vs ++ [.ref 521, .int 1]) H Q E) := by
    obtain ⟨fd, F⟩ := f_FB_sWrong w
    obtain ⟨ds, hd, hb⟩ := F.binds1 (ps := ["statements", "known", "path", "level"]) 2 0 (by simp) rfl (fun T kV doc pm an cdv ct us its hu hi => match us, its, hu, hi with | [_, _], [_, _], _, _ => ⟨_, rfl, rfl⟩)
    exact ⟨529, (FB.okWrong F B).raw hb hd, g (by kernel_rfl), F.kp⟩
  have cStv : FK.Cal TW w (Kw w) mg base CX0 1 "state_variables" (FB.spStv (Kw w)) := calOf (f_FB_sStv w) (fun fd F => FB.okStv F) (fun fd F => F.binds (fun _ _ _ _ _ _ us hl => match us, hl with | [_], _ => rfl)) (g (by kernel_rfl))
  have cSln : FK.Cal TW w (Kw w) mg base CX0 1 "statement_lines" (FB.spSln (Kw w)) := calOf (f_FB_sSln w) (fun fd F => FB.okSln F) (fun fd F => F.binds (fun _ _ _ _ _ _ us hl => match us, hl with | [_, _], _ => rfl)) (g (by kernel_rfl))
  have cStart : FK.Cal TW w (Kw w) mg base CX0 1 "start" FC.spStart := calOf (f_FC_sStart w) (fun fd F => FC.okStart F) (fun fd F => F.binds (fun _ _ _ _ _ _ us hl => match us, hl with | [_], _ => rfl)) (g (by kernel_rfl))
  have cStock : FK.Cal TW w (Kw w) mg base CX0 1 "stock" (FC.spStock (Kw w)) := calOf (f_FC_sStock w) (fun fd F => FC.okStock F B) (fun fd F => F.binds (fun _ _ _ _ _ _ us hl => match us, hl with | [_], _ => rfl)) (g (by kernel_rfl))
  have cVal : FK.Cal TW w (Kw w) mg base CX0 1 "value_of" (FC.spVal (Kw w) 439) := calOf (f_FC_sVal w) (fun fd F => FC.okVal F Em) (fun fd F => F.binds (fun _ _ _ _ _ _ us hl => match us, hl with | [_, _, _, _], _ => rfl)) (g (by kernel_rfl))
  have cRows : FK.Cal TW w (Kw w) mg base CX0 2 "value_rows" (FD.spRows (Kw w) 439) := calOf (f_FD_sRows w) (fun fd F => FD.okRows F cStock cVal) (fun fd F => F.binds (fun _ _ _ _ _ _ us hl => match us, hl with | [_, _, _], _ => rfl)) (g (by kernel_rfl))
  have cVals : FK.Cal TW w (Kw w) mg base CX0 3 "values" (FE.spVals (Kw w) 439) := calOf (f_FE_sVals w) (fun fd F => FE.okVals F cRows) (fun fd F => F.binds (fun _ _ _ _ _ _ us hl => match us, hl with | [_, _, _], _ => rfl)) (g (by kernel_rfl))
  have S0 : FF.Cf (Kw w) 2156 ["rules"] := ⟨(cfS w).c, fun f hf => (cfS w).n f (by rw [List.mem_singleton] at hf; subst hf; decide)⟩
  have F0 : FF.Cf (Kw w) 2062 ["rows"] := ⟨(cfF w).c, fun f hf => (cfF w).n f (by rw [List.mem_singleton] at hf; subst hf; decide)⟩
  have cRuled : FK.Cal TW w (Kw w) mg base CX0 1 "ruled_names" (FF.spRuled (Kw w) 2156) := calOf (f_FF_sRuled w) (fun fd F => FF.okRuled F S0) (fun fd F => F.binds (fun _ _ _ _ _ _ us hl => match us, hl with | [_], _ => rfl)) (g (by kernel_rfl))
  have cJoin : FK.Cal TW w (Kw w) mg base CX0 1 "joined" FF.spJoined := calOf (f_FF_sJoined w) (fun fd F => FF.okJoined F) (fun fd F => F.binds (fun _ _ _ _ _ _ us hl => match us, hl with | [_, _], _ => rfl)) (g (by kernel_rfl))
  have cTrim : FK.Cal TW w (Kw w) mg base CX0 1 "trimmed" (FF.spTrim (Kw w)) := calOf (f_FF_sTrim w) (fun fd F => FF.okTrim F B) (fun fd F => F.binds (fun _ _ _ _ _ _ us hl => match us, hl with | [_], _ => rfl)) (g (by kernel_rfl))
  have cWhole : FK.Cal TW w (Kw w) mg base CX0 2 "whole_row" (FF.spWhole (Kw w)) := calOf (f_FF_sWhole w) (fun fd F => FF.okWhole F cTrim) (fun fd F => F.binds (fun _ _ _ _ _ _ us hl => match us, hl with | [_], _ => rfl)) (g (by kernel_rfl))
  have cRowV : FK.Cal TW w (Kw w) mg base CX0 1 "row_value" (FF.spRowV (Kw w)) := calOf (f_FF_sRowV w) (fun fd F => FF.okRowV F B) (fun fd F => F.binds (fun _ _ _ _ _ _ us hl => match us, hl with | [_, _], _ => rfl)) (g (by kernel_rfl))
  have cCR : FK.Cal TW w (Kw w) mg base CX0 3 "count_row" (FH.spCR (Kw w) 439) := calOf (f_FH_sCR w) (fun fd F => FH.okCR F Em cWhole cRowV) (fun fd F => F.binds (fun _ _ _ _ _ _ us hl => match us, hl with | [_, _, _], _ => rfl)) (g (by kernel_rfl))
  have cNum : FK.Cal TW w (Kw w) mg base CX0 1 "number" (FH.spNum (Kw w)) := calOf (f_FH_sNum w) (fun fd F => FH.okNum F) (fun fd F => F.binds (fun _ _ _ _ _ _ us hl => match us, hl with | [_], _ => rfl)) (g (by kernel_rfl))
  have cCA : FK.Cal TW w (Kw w) mg base CX0 4 "count_at" (FH.spCA 439) := calOf (f_FH_sCA w) (fun fd F => FH.okCA F cCR cNum) (fun fd F => F.binds (fun _ _ _ _ _ _ us hl => match us, hl with | [_, _], _ => rfl)) (g (by kernel_rfl))
  have cTS : FK.Cal TW w (Kw w) mg base CX0 1 "tree_size" (FH.spCA 439) := calOf (f_FH_sTS w) (fun fd F => FH.okTS F B Em) (fun fd F => F.binds (fun _ _ _ _ _ _ us hl => match us, hl with | [_, _], _ => rfl)) (g (by kernel_rfl))
  have cSh : FK.Cal TW w (Kw w) mg base CX0 1 "shown" (FH.spSh (Kw w) 439) := calOf (f_FH_sSh w) (fun fd F => FH.okSh F B Em) (fun fd F => F.binds (fun _ _ _ _ _ _ us hl => match us, hl with | [_, _], _ => rfl)) (g (by kernel_rfl))
  have cSW : FK.Cal TW w (Kw w) mg base CX0 2 "shown_within" (FH.spSW (Kw w) 439) := calOf (f_FH_sSW w) (fun fd F => FH.okSW F cTS cSh) (fun fd F => F.binds (fun _ _ _ _ _ _ us hl => match us, hl with | [_, _, _], _ => rfl)) (g (by kernel_rfl))
  have cVA : FK.Cal TW w (Kw w) mg base CX0 1 "value_at" (FH.spVA (Kw w) 2062 439) := calOf (f_FH_sVA w) (fun fd F => FH.okVA F B F0) (fun fd F => F.binds (fun _ _ _ _ _ _ us hl => match us, hl with | [_, _], _ => rfl)) (g (by kernel_rfl))
  have cPT : FK.Cal TW w (Kw w) mg base CX0 2 "program_text" (FI.spPT (Kw w)) := calOf (f_FI_sPT w) (fun fd F => FI.okPT F cSln) (fun fd F => F.binds (fun _ _ _ _ _ _ us hl => match us, hl with | [_, _], _ => rfl)) (g (by kernel_rfl))
  have cPg : FK.Cal TW w (Kw w) mg base CX0 3 "page_text" (FI.spPT (Kw w)) := calOf (f_FI_sPg w) (fun fd F => FI.okPg F cPT) (fun fd F => F.binds (fun _ _ _ _ _ _ us hl => match us, hl with | [_, _], _ => rfl)) (g (by kernel_rfl))
  have cAF : FK.Cal TW w (Kw w) mg base CX0 2 "alike_families" (FO.spAF (Kw w) 2156) := calOf (f_FO_sAF w) (fun fd F => FO.okAF F B (cfS w) cJoin cRuled) (fun fd F => F.binds (fun _ _ _ _ _ _ us hl => match us, hl with | [_, _], _ => rfl)) (g (by kernel_rfl))
  have cAS : FK.Cal TW w (Kw w) mg base CX0 3 "alike_standings" (FO.spAS (Kw w) 2156) := calOf (f_FO_sAS w) (fun fd F => FO.okAS F (cfS w) cAF) (fun fd F => F.binds (fun _ _ _ _ _ _ us hl => match us, hl with | [_, _], _ => rfl)) (g (by kernel_rfl))
  -- the classes
  have cProg : FK.CalC TW w (Kw w) mg base (L2.CX TW w) 3 "Program" 848 (fun vs H Q E => FJ.spPI (Kw w) 848 53 (vs ++ [.ref 793]) H Q E) := by
    obtain ⟨fd, F⟩ := f_FJ_sPI w
    obtain ⟨ds, hd, hb⟩ := F.binds1 (ps := ["self", "known", "statements"]) 2 1 (by simp) rfl (fun T kV doc pm an cdv ct us its hu hi => match us, its, hu, hi with | [_, _], [_, _], _, _ => ⟨_, rfl, rfl⟩)
    exact ⟨799, (FJ.okPI F B (cfP w) SB cName (wdv := [.ref 521, .int 1]) rfl cWrong cStv).raw hb hd, mkP w, g (by kernel_rfl)⟩
  have cStd : FK.CalC TW w (Kw w) mg base CX0 2 "Standing" 2156 (FL.spSI (Kw w) 2156) := calCOf (f_FL_sSI w) (fun fd F => FL.okSI F (cfS w) cStart) (fun fd F => F.binds (fun _ _ _ _ _ _ us hl => match us, hl with | [_, _, _], _ => rfl)) (mkS w) (g (by kernel_rfl))
  have cWld : FK.CalC TW w (Kw w) mg base (L2.CX TW w) 5 "World" 2552 (FM.spWI (Kw w) 2552 2156 53) := by
    obtain ⟨fd, F⟩ := f_FM_sWI w
    obtain ⟨ds, hd, hb⟩ := F.binds1 (ps := ["self", "known"]) 2 1 (by simp) rfl (fun T kV doc pm an cdv ct us its hu hi => match us, its, hu, hi with | [_, _], [_], _, _ => ⟨_, rfl, rfl⟩)
    cases hd
    exact ⟨2381, raw0 (FM.okWI F (cfW w) (tup_793 w) cProg cStd) hb, mkW w, g (by kernel_rfl)⟩
  have cFam : FK.CalC TW w (Kw w) mg base CX0 1 "Family" 2062 (FN.spFI (Kw w) 2062 439) := by
    obtain ⟨fd, F⟩ := f_FN_sFI w
    obtain ⟨ds, hd, hb⟩ := F.binds1 (ps := ["self", "program", "e", "made"]) 4 1 (by simp) rfl (fun T kV doc pm an cdv ct us its hu hi => match us, its, hu, hi with | [_, _, _, _], [_], _, _ => ⟨_, rfl, rfl⟩)
    cases hd
    exact ⟨1878, raw0 (FN.okFI F (cfF w)) hb, mkF w, g (by kernel_rfl)⟩
  obtain ⟨oL, oC, oG, oE⟩ := own_facts w
  have cDraw : FK.Cal TW w (Kw w) mg base CX0 1 "_law_draw" GA.spDraw := calOf (f_GA_sDraw w) (fun fd F => GA.okDraw F B) (fun fd F => F.binds (fun _ _ _ _ _ _ us hl => match us, hl with | [_, _], _ => rfl)) (g (by kernel_rfl))
  have cPick : FK.Cal TW w (Kw w) mg base CX0 2 "_law_pick" (GB.spPick (Kw w)) := calOf (f_GB_sPick w) (fun fd F => GB.okPick F B cDraw) (fun fd F => F.binds (fun _ _ _ _ _ _ us hl => match us, hl with | [_, _], _ => rfl)) (g (by kernel_rfl))
  have cGet : GD.Own TW w (Kw w) mg base (L2.CX TW w) 4 2552 "__getitem__" (FO.spGI (Kw w) 2552 2156 2062 212 439) := ownOf (f_FO_sGI w) (fun fd F => FO.okGI F (cfW w) (cfS w) SN cName cVals cFam) (fun fd F => F.binds (fun _ _ _ _ _ _ us hl => match us, hl with | [_, _], _ => rfl)) oG
  exact {
    B := B
    pen := calOf (f_GA_sPen w) (fun fd F => GA.okPen F B) (fun fd F => F.binds (fun _ _ _ _ _ _ us hl => match us, hl with | [_], _ => rfl)) (g (by kernel_rfl))
    words := calOf (f_GC_sWords w) (fun fd F => GC.okWords F B cDraw cPick) (fun fd F => F.binds (fun _ _ _ _ _ _ us hl => match us, hl with | [_, _], _ => rfl)) (g (by kernel_rfl))
    shuf := calOf (f_GB_sShuf w) (fun fd F => GB.okShuf F B cDraw) (fun fd F => F.binds (fun _ _ _ _ _ _ us hl => match us, hl with | [_, _], _ => rfl)) (g (by kernel_rfl))
    draw := cDraw
    pick := cPick
    err := calOf (f_GD_sErr w) (fun fd F => GD.okErr F SB (g (v := .ref 31) (by kernel_rfl)) (exB w) cWld) (fun fd F => F.binds (fun _ _ _ _ _ _ us hl => match us, hl with | [_], _ => rfl)) (g (by kernel_rfl))
    item := calOf (f_GD_sItem w) (fun fd F => GD.okItem F SN (g (v := .ref 31) (by kernel_rfl)) (exN w) cGet) (fun fd F => F.binds (fun _ _ _ _ _ _ us hl => match us, hl with | [_, _], _ => rfl)) (g (by kernel_rfl))
    world := cWld
    clW := (cfW w).c
    clF := (cfF w).c
    knF := (cfF w).n _ (by decide)
    names := calPOf (f_FN_sNames w) (fun fd F => FN.okNames F (cfW w) (cfS w)) (fun fd F => F.binds (fun _ _ _ _ _ _ us hl => match us, hl with | [_], _ => rfl)) (prN w)
    page := calPOf (f_FN_sPage w) (fun fd F => FN.okPage F (cfW w) (cfS w) cPg) (fun fd F => F.binds (fun _ _ _ _ _ _ us hl => match us, hl with | [_], _ => rfl)) (prP w)
    allw := calPOf (f_FN_sAll w) (fun fd F => FN.okAll F (cfW w) (cfS w)) (fun fd F => F.binds (fun _ _ _ _ _ _ us hl => match us, hl with | [_], _ => rfl)) (prA w)
    vals := calMOf (f_FN_sVs w) (fun fd F => FN.okVs F B (cfW w) (cfS w) cRuled) (fun fd F => F.binds (fun _ _ _ _ _ _ us hl => match us, hl with | [_, _], _ => rfl)) (meV w)
    len := ownOf (f_FN_sLen w) (fun fd F => FN.okLen F B (cfW w)) (fun fd F => F.binds (fun _ _ _ _ _ _ us hl => match us, hl with | [_], _ => rfl)) oL
    cont := ownOf (f_FN_sIn w) (fun fd F => FN.okIn F (cfW w) (cfS w) cRuled) (fun fd F => F.binds (fun _ _ _ _ _ _ us hl => match us, hl with | [_, _], _ => rfl)) oC
    geti := cGet
    eq := ownOf (f_FO_sEq w) (fun fd F => FO.okEq F B (cfW w) (isW w) (g (by kernel_rfl)) cAS) (fun fd F => F.binds (fun _ _ _ _ _ _ us hl => match us, hl with | [_, _], _ => rfl)) oE
    nf := nf1 w
    nft := nf2 w
    call := by
      obtain ⟨fd, F⟩ := f_FN_sFC w
      obtain ⟨ds, hd, hb⟩ := F.binds1 (ps := ["self", "n", "most"]) 2 0 (by simp) rfl (fun T kV doc pm an cdv ct us its hu hi => match us, its, hu, hi with | [_, _], [_], _, _ => ⟨_, rfl, rfl⟩)
      exact ⟨1896, coF w, (FN.okFC F cSW cVA).raw hb hd⟩
    count := calMOf (f_FN_sFn w) (fun fd F => FN.okFn F cCA cVA) (fun fd F => F.binds (fun _ _ _ _ _ _ us hl => match us, hl with | [_, _], _ => rfl)) (meC w) }
end HM
end
end
section
set_option Elab.async false
set_option linter.all false
set_option maxRecDepth 100000
set_option maxHeartbeats 4000000
noncomputable section
namespace HO
open PySem PySem.W PySem.Calls PyProof.Rows HK HJ PySem.TablesWhole
theorem wSs_app (top : Scope) (cx : TablesWhole.Ctx) (sc : Scope) (l m : List Stmt) : wSs holds top cx sc (l ++ m) = (wSs holds top cx sc l && wSs holds top cx sc m) := by
  induction l with
  | nil =>
    simp only [List.nil_append, wSs]
    rfl
  | cons s r ih =>
    simp only [List.cons_append, wSs]
    show (wS holds top cx sc s && wSs holds top cx sc (r ++ m)) = ((wS holds top cx sc s && wSs holds top cx sc r) && wSs holds top cx sc m)
    rw [ih, Bool.and_assoc]
theorem wSs_split {top : Scope} {cx : TablesWhole.Ctx} {sc : Scope} {l : List Stmt} (n : Nat) (h1 : wSs holds top cx sc (l.take n) = true) (h2 : wSs holds top cx sc (l.drop n) = true) : wSs holds top cx sc l = true := by
  rw [← List.take_append_drop n l, wSs_app, h1, h2]
  rfl
noncomputable abbrev bd : List Stmt := TW.main.body
noncomputable abbrev sc : Scope := TW.main.scope
theorem told : wSs gather sc ⟨sc, [], [], [], none⟩ sc bd = [] := by
  rw [PySem.W.Fast.te16421684217811934046]
  kernel_rfl
theorem part0 : wSs holds sc ⟨sc, [], [], [], none⟩ sc ((bd.drop 0).take 43) = true := by
  rw [PySem.W.Fast.te16421684217811934046]
  kernel_rfl
theorem part1 : wSs holds sc ⟨sc, [], [], [], none⟩ sc ((bd.drop 43).take 43) = true := by
  rw [PySem.W.Fast.te16421684217811934046]
  kernel_rfl
theorem part2 : wSs holds sc ⟨sc, [], [], [], none⟩ sc ((bd.drop 86).take 43) = true := by
  rw [PySem.W.Fast.te16421684217811934046]
  kernel_rfl
theorem part3 : wSs holds sc ⟨sc, [], [], [], none⟩ sc ((bd.drop 129).take 43) = true := by
  rw [PySem.W.Fast.te16421684217811934046]
  kernel_rfl
theorem part4 : wSs holds sc ⟨sc, [], [], [], none⟩ sc ((bd.drop 172).take 43) = true := by
  rw [PySem.W.Fast.te16421684217811934046]
  kernel_rfl
theorem part5 : wSs holds sc ⟨sc, [], [], [], none⟩ sc ((bd.drop 215).take 43) = true := by
  rw [PySem.W.Fast.te16421684217811934046]
  kernel_rfl
theorem wSs_from {a b n : Nat} (e : b = a + n) (h1 : wSs holds sc ⟨sc, [], [], [], none⟩ sc ((bd.drop a).take n) = true) (h2 : wSs holds sc ⟨sc, [], [], [], none⟩ sc (bd.drop b) = true) : wSs holds sc ⟨sc, [], [], [], none⟩ sc (bd.drop a) = true :=
  wSs_split n h1 (by rw [List.drop_drop, ← e]; exact h2)
theorem end_ok : wSs holds sc ⟨sc, [], [], [], none⟩ sc (bd.drop 258) = true := by
  rw [PySem.W.Fast.te16421684217811934046]
  kernel_rfl
theorem body_ok : wSs holds sc ⟨sc, [], [], [], none⟩ sc (bd.drop 0) = true :=
  wSs_from (b := 43) rfl part0 (wSs_from (b := 86) rfl part1 (wSs_from (b := 129) rfl part2 (wSs_from (b := 172) rfl part3 (wSs_from (b := 215) rfl part4 (wSs_from (b := 258) rfl part5 end_ok)))))
theorem wModule_ok (m : Module) (h0 : wSs gather m.scope ⟨m.scope, [], [], [], none⟩ m.scope m.body = []) (h1 : wSs holds m.scope ⟨m.scope, [], [], [], none⟩ m.scope (m.body.drop 0) = true) (h2 : noTwice m.scope = true) : wModule holds m = true := by
  rw [List.drop_zero] at h1
  unfold wModule
  rw [h0]
  show (true && (noTwice m.scope && (wSs holds m.scope ⟨m.scope, [], [], [], none⟩ m.scope m.body && true))) = true
  rw [h1, h2]
  rfl
theorem tw_ok (p : Program) (h : wModule holds p.main = true) (h1 : p.modules = []) (h2 : p.parses = []) (h3 : p.harvested = []) : p.tablesWhole = true := by
  unfold Program.tablesWhole wProgram
  rw [h, h1, h2, h3]
  rfl
theorem twice_ok : noTwice sc = true := by
  rw [PySem.W.Fast.te8331962902438777018]
  kernel_rfl
theorem whole : TW.tablesWhole = true := tw_ok TW (wModule_ok TW.main told body_ok twice_ok) rfl rfl rfl
end HO
end
end
section
set_option Elab.async false
set_option linter.all false
set_option maxRecDepth 100000
set_option maxHeartbeats 4000000
noncomputable section
namespace HN
open PySem PySem.W PySem.Calls PyProof.Rows HK HD HF HH HI HJ HM HL
def lawD : DefRec := ⟨"law", dPar (stA TW 253), dBody (stA TW 253), dScope (stA TW 253), ⟨2218, 0, 2246, 90⟩⟩
theorem leftZ : LeftO TW q loose (fun s => xlAt q [] s && recOk [] s) (fun s => (KA ++ LOW).map s.heap.get?) (fun w => (Kw w).map fun p => some p.2) 30000 true := by
  refine left_top (M := 12 + (1 + (3580 + (805 + (318 + (408 + (181 + (1252 + (246 + (1373 + (1534 + (1426 + (131 + (2484 + (2472 + (2151 + 2)))))))))))))))) rfl (by decide) (fun s => rfl) (by decide) (fun w os => ?_) h11 h6
  obtain ⟨g, r, e⟩ := HF.run w os
  refine ⟨_, r, HG.lkZ w os g, ?_, yE w os g e⟩
  rw [HandSHeadRun.seenQ_eq]
  exact HG2.snZ w os g e
theorem callZ : WalkO q loose (XL q []) (fun w h => (Kw w).In h) (lOf TW).row.toRowW lawD [] (fun f vs => PySem.call f vs) := by
  refine L2.walk_ofE (l := lOf TW) (n := 63) (k := 8) (CX := L2.CX0) (x := "_law_script") rfl (by decide) rfl ⟨rfl, by decide, by decide⟩ (fun w mg fa h X G hm => ?_) (fun H s e s' h => h.elim)
  have e : mg "law" = some (.ref 2615) := mg_of X G (by kernel_rfl)
  have hm' : mg "law" = some (.ref fa) := hm
  obtain rfl : fa = 2615 := by
    rw [e] at hm'
    cases hm'
    rfl
  obtain ⟨fd, F⟩ := f_GE_sLaw w
  refine ⟨Kw w, fd, GE.spLaw (Kw w), X, fun s u => ?_, fun H a ns hn hO hS => ⟨a, ns, rfl, hS, hn, fun H' => rfl⟩, fun base hX hG => GE.okLaw F (law_of w hX hG base)⟩
  obtain ⟨oc, od, kV, doc, pm, an, cdv, ct, osl, rfl, lk, hcd⟩ := F.ex
  exact .of_eq rfl
theorem bareZ : TW.bare := ⟨rfl, rfl, rfl, rfl, rfl, HO.whole⟩
theorem promZ : (lOf TW).row.toRowW.promised := ⟨[.list []], by kernel_rfl, by kernel_rfl⟩
theorem rowZ : (lOf TW).row.Holds :=
  holds_open (r := (lOf TW).row) (q := q) (loose := loose) (XP := XL q []) (YP := fun w h => (Kw w).In h) (d := lawD) (kwd := []) (N := 30000) leftZ
    (fun w s e => Frag.in_of (k_keys w) e) (fun w h h' x k => x.keeps k) (fun s z => xl_of s (Bool.and_eq_true_iff.mp z).1) XL.keeps
    (by kernel_rfl) (by kernel_rfl) rfl (fun s z => recFacts_of (Bool.and_eq_true_iff.mp z).2) (by kernel_rfl) HL.b0 (by kernel_rfl) bareZ promZ callZ
end HN
end
theorem PySem.Challenge.cw_everyname_k73_worlds_begin_empty_holds : PySem.Challenge.rw_everyname_k73_worlds_begin_empty.Holds := by
  rw [HL.l_eq]
  exact ⟨HL.said, HN.rowZ⟩
end
