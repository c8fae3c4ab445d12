import PyProof.Rows.All
import Wide.All
import OpenK.AllK
import Wide.FinOn
import KE.KStateDown
import HandS.ForMost
import HandS.Nested
import HandS.Defaults
import HandS.Head0
import HandS.Head1
import HandS.Head2
import HandS.HeadHook4
import HandS.HeadWalk
import PySem.Challenge.RW_thinbook_k64_names_chosen
import HandS.Codes
import HandS.Zip
import HandS.Conv
import KE.KDictList
import PyProof.Rows.CountFlat
import HandS.Walk
import HandS.IsInst
import HandS.More
import HandS.SetKeys
import HandS.Flow
import HandS.Deep
import HandS.Style
set_option Elab.async false
set_option linter.all false
set_option maxRecDepth 100000
set_option maxHeartbeats 4000000
section K0
/-! The text by places, the head's facts, the top's run. -/
namespace Th
open PySem PySem.Spec PyProof.Rows L2
def top (i : Nat) : Stmt := PySem.Challenge.pw_thinbook_k64_names_chosen.main.body.getD i (.Pass ⟨0, 0, 0, 0⟩)
abbrev s_cut_at : Stmt := top 8
abbrev s_edges_at : Stmt := top 9
abbrev s_greater : Stmt := top 10
abbrev s_RollInit : Stmt := inClass (top 16) 0
abbrev s_RollLift : Stmt := inClass (top 16) 1
abbrev s_roll_of : Stmt := top 21
abbrev s_is_word : Stmt := top 26
abbrev s_is_name : Stmt := top 27
abbrev s_is_mark : Stmt := top 28
abbrev s_sieve : Stmt := top 29
abbrev s_marks_looked_at : Stmt := top 32
abbrev s_BookInit : Stmt := inClass (top 33) 0
abbrev s_bare : Stmt := inClass (top 33) 2
abbrev s_adopt : Stmt := inClass (top 33) 3
abbrev s_enrol : Stmt := inClass (top 33) 4
abbrev s_sought : Stmt := inClass (top 33) 5
abbrev s_chosen : Stmt := inClass (top 33) 7
abbrev s_names : Stmt := inClass (top 33) 15
abbrev s_marks : Stmt := inClass (top 33) 16
abbrev s_RuleInit : Stmt := inClass (top 36) 0
abbrev s_steps : Stmt := inClass (top 36) 1
abbrev s_gone : Stmt := inClass (top 36) 2
abbrev s_cell_at : Stmt := top 38
abbrev s_mixed : Stmt := top 39
abbrev s_name : Stmt := top 40
abbrev s_mark : Stmt := top 41
abbrev s_book : Stmt := top 42
abbrev s_own : Stmt := top 43
abbrev s_by_text : Stmt := top 44
abbrev s_by_own : Stmt := top 45
abbrev s_law : Stmt := top 46
def dG (x : Str) (st : Stmt) : He.DefD := ⟨(x, none), x, x, defArgs st, defBody st, defScope st, [], []⟩
def dM (C m q : Str) (st : Stmt) (ds : List He.Dv) : He.DefD := ⟨(C, some m), m, q, defArgs st, defBody st, defScope st, ds, []⟩
def fn : List He.DefD := [
  dG "cut_at" s_cut_at, dG "edges_at" s_edges_at, dG "greater" s_greater,
  dM "Roll" "__init__" "Roll.__init__" s_RollInit [], dM "Roll" "lift" "Roll.lift" s_RollLift [],
  dG "roll_of" s_roll_of, dG "is_word" s_is_word, dG "is_name" s_is_name, dG "is_mark" s_is_mark, dG "sieve" s_sieve,
  dG "marks_looked_at" s_marks_looked_at,
  dM "Book" "__init__" "Book.__init__" s_BookInit [], dM "Book" "bare" "Book.bare" s_bare [], dM "Book" "adopt" "Book.adopt" s_adopt [],
  dM "Book" "enrol" "Book.enrol" s_enrol [.non], dM "Book" "sought" "Book.sought" s_sought [], dM "Book" "chosen" "Book.chosen" s_chosen [],
  dM "Book" "names" "Book.names" s_names [], dM "Book" "marks" "Book.marks" s_marks [],
  dM "Rule" "__init__" "Rule.__init__" s_RuleInit [.non], dM "Rule" "steps" "Rule.steps" s_steps [], dM "Rule" "gone" "Rule.gone" s_gone [],
  dG "_law_cell_at" s_cell_at, dG "_law_mixed" s_mixed, dG "_law_name" s_name, dG "_law_mark" s_mark, dG "_law_book" s_book,
  dG "_law_own" s_own, dG "_law_by_text" s_by_text, dG "_law_by_own" s_by_own, dG "law" s_law]
def fa : List He.Fa := [
  .glo "cut_at", .glo "edges_at", .glo "greater", .glo "Roll", .glo "roll_of", .glo "is_word", .glo "is_name", .glo "is_mark", .glo "sieve", .glo "marks_looked_at", .glo "Book", .glo "Rule",
  .glo "_law_cell_at", .glo "_law_mixed", .glo "_law_name", .glo "_law_mark", .glo "_law_book", .glo "_law_own", .glo "_law_by_text", .glo "_law_by_own", .glo "law",
  .free "len", .free "range", .free "sorted", .free "zip", .free "all", .free "isinstance", .free "list", .free "str",
  .int "MOST_OF_NAME" 12, .int "MOST_OF_MARK" 8, .int "MOST_MARKS" 8, .int "MOST_STEPS" 5, .str "SMALL" "abcdefghijklmnopqrstuvwxyz",
  .cls "Roll", .cls "Book", .cls "Rule",
  .noat "Roll" "ruling", .noat "Roll" "today", .noat "Roll" "limits", .noat "Roll" "whole", .noat "Roll" "heaped",
  .noat "Book" "ruling", .noat "Book" "today", .noat "Book" "limits", .noat "Book" "rolls", .noat "Book" "signs",
  .noat "Rule" "row", .noat "Rule" "end",
  .meth "Roll" "lift", .meth "Rule" "steps", .meth "Rule" "gone", .meth "Book" "bare", .meth "Book" "adopt", .meth "Book" "enrol", .meth "Book" "sought", .meth "Book" "chosen", .meth "Book" "names", .meth "Book" "marks",
  .mkr "Roll", .mkr "Book", .mkr "Rule"]
def tf : List He.Defn := [("sieve", none), ("_law_own", none)]
abbrev R : PySem.W.OpenRow := PySem.W.OpenLaw.row PySem.Challenge.rw_thinbook_k64_names_chosen
/-- the two closures' tables are two -/
def exK (K : PySem.W.Frag) : Bool := !decide ((He.cT K ("sieve", none)).2 = (He.cT K ("_law_own", none)).2)
abbrev hk : PySem.W.Hook := He.hookX 5 fa fn [] tf exK
def ob (s : PySem.W.SharedT) : He.AlX := He.obsX 5 fa fn [] tf exK (HandSHeadRun.getT s)
theorem ob_eq (s : PySem.W.SharedT) : ob s = hk.obs s.abs := He.obsX_eq (HandSHeadRun.getT_eq s)
def names1 : List Str := ["_wall", "BookError", "NoNumber", "NoRule", "NoName", "NoMark", "cut_at", "edges_at", "greater", "cell_at", "poured", "heap_of", "Roll", "take_in", "same_rule", "both", "roll_of", "SMALL", "MOST_OF_NAME", "MOST_OF_MARK"]
def names2 : List Str := ["is_word", "is_name", "is_mark", "sieve", "MOST_MARKS", "marks_looked_at", "Book", "MOST_STEPS", "Rule", "_law_cell_at", "_law_mixed", "_law_name", "_law_mark", "_law_book", "_law_own", "_law_by_text", "_law_by_own"]
def names : List Str := names1 ++ names2
theorem run (w : World) : HandSHeadRun.RunEq R (PySem.W.view R.prog [46]) hk ob 20000 names w := by
  intro os
  kernel_rfl
end Th
end K0
section K1
/-! Closures that a def hands back: their cells are tracked from the return on, untracked for each call. -/
namespace Clo
open PySem PySem.Spec PyProof.Rows L2 NdefX LamX
/-- the cell at c holds v -/
def CellO (c : Addr) (v : V) : HO := .ext fun h => ∃ u : Value, L2.RelV v u ∧ h.IsCell c (some u)
theorem cellO_ok {P : Program} {w : World} {H : Hp} {h : Heap} {c : Addr} {v : V} {u : Value} (r : L2.RelV v u) (z : h.IsCell c (some u)) : ObjOk P w H h c (CellO c v) := by
  obtain ⟨o, ho, hd⟩ := z
  exact ⟨⟨u, r, o, ho, hd⟩, ⟨o, ho⟩, fun h1 h2 ⟨u', r', o', e1, e2⟩ st => ⟨u', r', o', st _ e1, e2⟩⟩
theorem cellO_at {P : Program} {w : World} {H : Hp} {h : Heap} {c : Addr} {v : V} (x : ObjOk P w H h c (CellO c v)) : ∃ u, L2.RelV v u ∧ h.IsCell c (some u) := x.1
/-- the captured names' values, told of an abstract heap -/
structure TrackedAt (cells : List (Str × Addr)) (sc : Scope) (N : List Str) (σ : L2.St) (H : Hp) : Prop where
  inj : ∀ x y c, cells.lookup x = some c → cells.lookup y = some c → x = y
  has : ∀ y, sc.names.lookup y = some .cell → ∃ c, cells.lookup y = some c
  val : ∀ (y : Str) (j : Nat) (c : Addr) (v : V), N[j]? = some y → sc.names.lookup y = some .cell → cells.lookup y = some c → σ[j]? = some (some v) → H c = some (CellO c v)
/-- a body that returns a name as its last statement, the end told of the slots too -/
structure PSsC (X : Cx) (sts : List Stmt) (t : (L2.St → Hp → V → Prop) → L2.St → Hp → Prop) : Prop where
  run : ∀ (pins : List (Addr × Obj)) (s : Shared) (σ : L2.St) (H : Hp) (R : L2.St → Hp → V → Prop), Inv X pins σ H s → t R σ H →
    wpAny (model X.prog X.w) X.A (execs sts X.env) (fun f s' => match f with
      | .ret u => ∃ v σ' H', Inv X pins σ' H' s' ∧ L2.RelV v u ∧ R σ' H' v
      | _ => False) X.xe s
section
variable {X : Cx}
theorem pssc_cons {st : Stmt} {rest : List Stmt} {t : TS} {u : (L2.St → Hp → V → Prop) → L2.St → Hp → Prop} (h1 : PS X st t) (h2 : PSsC X rest u) : PSsC X (st :: rest) (fun R σ H => t { nx := u R, rt := fun _ _ => False } σ H) := by
  refine ⟨fun pins s σ H R I h => ?_⟩
  refine wpAny_execs_cons (thn (h1.run pins s σ H { nx := u R, rt := fun _ _ => False } I h) fun f s1 q => ?_)
  cases f with
  | next =>
    obtain ⟨σ', H', I', q⟩ := q
    exact h2.run pins s1 σ' H' R I' q
  | ret v =>
    obtain ⟨_, _, _, _, _, q⟩ := q
    exact False.elim q
  | brk =>
    obtain ⟨_, _, _, q⟩ := q
    exact False.elim q
  | cont =>
    obtain ⟨_, _, _, q⟩ := q
    exact False.elim q
theorem pssc_ret {e : Expr} {p : Pos} {te : TE} (he : PE X e te) : PSsC X [.Return (some e) p] (fun R σ H => te σ H fun v H' => R σ H' v) := by
  refine ⟨fun pins s σ H R I h => ?_⟩
  refine wpAny_execs_cons ?_
  refine wpAny_Return_some (thn (he.run pins s σ H (fun v H' => R σ H' v) I h) fun v s1 ⟨x, H1, I1, r1, q1⟩ => ?_)
  exact ⟨x, σ, H1, I1, r1, q1⟩
end
section
variable {X : Cx}
theorem pssc_cut {st : Stmt} {rest : List Stmt} {t : TS} {u : (L2.St → Hp → V → Prop) → L2.St → Hp → Prop} (h1 : PS X st t) (h2 : PSsC X rest u) :
    PSsC X (st :: rest) (fun R σ H => ∃ Mid : L2.St → Hp → Prop, t { nx := Mid, rt := fun _ _ => False } σ H ∧ ∀ σ' H', Mid σ' H' → u R σ' H') := by
  refine ⟨fun pins s σ H R I h => ?_⟩
  obtain ⟨Mid, h, hm⟩ := h
  refine wpAny_execs_cons (thn (h1.run pins s σ H { nx := Mid, rt := fun _ _ => False } I h) fun f s1 q => ?_)
  cases f with
  | next =>
    obtain ⟨σ', H', I', q⟩ := q
    exact h2.run pins s1 σ' H' R I' (hm _ _ q)
  | ret v =>
    obtain ⟨_, _, _, _, _, q⟩ := q
    exact False.elim q
  | brk =>
    obtain ⟨_, _, _, q⟩ := q
    exact False.elim q
  | cont =>
    obtain ⟨_, _, _, q⟩ := q
    exact False.elim q
theorem PSsC.nox {sts : List Stmt} {t : (L2.St → Hp → V → Prop) → L2.St → Hp → Prop} (h : PSsC X.nox sts t) : PSsC X sts t := by
  refine ⟨fun pins s σ H R I hw => wpAny_mono (h.run pins s σ H R (I.wish _) hw) (fun f s' q => ?_) fun _ _ z => False.elim z⟩
  cases f with
  | ret u =>
    obtain ⟨v, σ', H', I', r, q⟩ := q
    exact ⟨v, σ', H', I'.unwish, r, q⟩
  | next => exact False.elim q
  | brk => exact False.elim q
  | cont => exact False.elim q
end
/-- THE RULE: a def that hands back a closure -/
theorem fn_ofC {CX : CXT} {P : Program} {w : World} {K : PySem.W.Frag} {mg : Str → Option Value} {base : Heap} {k : Nat} {f : Addr} {name qual : Str} {params : Arguments} {body : List Stmt} {scope : Scope} {dV kV doc pm cdv ct oc : Value} {an od : Option Addr}
    {osl : Array (Option Value)} {N ps : List Str} {sp : Sp} (lk : K.lookup f = some ⟨oc, od, .func (PySem.W.fnOf name qual params body scope dV kV doc pm an cdv ct), osl⟩) (hcd : PySem.W.codeIn K cdv qual = true) (S : FnScope N ps scope)
    (len : ∀ vs H Q E, sp vs H Q E → vs.length = ps.length)
    (hbody : ∀ (A : Around) (outer : List Env) (s : Shared) (H : Hp) (vs : List V) (Q : VK) (E : XK), Room k (A.deeper (envOfC qual scope s.heap.objs.size f cdv)) → sp vs H Q E →
      ∃ t, PSsC (cxOf CX P w K mg base N qual scope f cdv A outer s H E) body t ∧
        t (fun σ' H' v => ∀ H'', Same H' H'' → TrackedAt (cellsFrom (s.heap.objs.size + 1) scope.names []) scope N σ' H'' → Q v H'') (start N vs) H) :
    FnOk P w K mg base CX (k + 1) f (PySem.W.fnOf name qual params body scope dV kV doc pm an cdv ct) ps sp := by
  refine ⟨len, fun A outer s H args us vs Q E hr e0 hb r hsp => ?_⟩
  have hl := len _ _ _ _ hsp
  have KX : K.In s.heap := e0.mod.kin.keeps fun b o e => (e0.bs b o e).1
  have lim : s.heap.NoLimit := e0.mod.nolimit.keeps fun b o e => (e0.bs b o e).1
  have hkind : ∀ y ∈ ps.zip us, scope.names.lookup y.1 = some .local ∨ (scope.names.lookup y.1 = some .cell ∧ ((cellsFrom (s.heap.objs.size + 1) scope.names []).lookup y.1).isSome = true) := fun ⟨n, v⟩ hy => by
    rcases S.par n (List.of_mem_zip hy).1 with q | q
    · exact .inl q
    · exact .inr ⟨q, PySem.W.cellsFrom_some _ _ _ (.inl q)⟩
  refine codeAny_call_function hr.depth (KX _ _ lk) rfl S.co S.gen rfl (PySem.W.codeRec_of KX hcd) (hb _ _ _ _ ?_)
  refine wpAny_newFunctionEnv_cells S.kind hkind fun env he s1 x => ?_
  subst he
  refine ⟨lim.keeps x.toInCall.keep, codeAny_func ?_⟩
  obtain ⟨t, ht, hq⟩ := hbody A outer s H vs Q E (hr.deeper _) hsp
  have I : Inv (cxOf CX P w K mg base N qual scope f cdv A outer s H E) [] (start N vs) H s1 := inv_start S hr.hd e0 hl r x
  refine wpAny_mono (ht.run [] s1 (start N vs) H _ I hq) (fun fl s' hs => ?_) fun e s' hs => hs
  cases fl with
  | next => exact False.elim hs
  | brk => exact False.elim hs
  | cont => exact False.elim hs
  | ret u =>
    obtain ⟨v, σ', H', J, rv, q⟩ := hs
    have injC : ∀ x y c, (cellsFrom (s.heap.objs.size + 1) scope.names []).lookup x = some c → (cellsFrom (s.heap.objs.size + 1) scope.names []).lookup y = some c → x = y := J.ok.inj
    have ndN : N.Nodup := S.nd
    have key : ∀ (b : Addr) (y y' : Str) (j j' : Nat) (a a' : V), (cellsFrom (s.heap.objs.size + 1) scope.names []).lookup y = some b → N[j]? = some y → σ'[j]? = some (some a) →
        (cellsFrom (s.heap.objs.size + 1) scope.names []).lookup y' = some b → N[j']? = some y' → σ'[j']? = some (some a') → a = a' := fun b y y' j j' a a' c1 n1 s1 c2 n2 s2 => by
      have e1 := injC _ _ _ c1 c2
      subst e1
      have e2 := nodup_ix ndN n1 n2
      subst e2
      rw [s1] at s2
      exact Option.some.inj (Option.some.inj s2)
    let PV : Addr → V → Prop := fun b a => ∃ (y : Str) (j : Nat), (cellsFrom (s.heap.objs.size + 1) scope.names []).lookup y = some b ∧ N[j]? = some y ∧ scope.names.lookup y = some .cell ∧ σ'[j]? = some (some a)
    have pvU : ∀ b a a', PV b a → PV b a' → a = a' := fun b a a' ⟨y, j, c1, n1, _, s1⟩ ⟨y', j', c2, n2, _, s2⟩ => key b y y' j j' a a' c1 n1 s1 c2 n2 s2
    classical
    let H'' : Hp := fun b => match H' b with
      | some o => some o
      | none => if h : ∃ a, PV b a then some (CellO b (Classical.choose h)) else none
    have hS : ∀ b o, H' b = some o → H'' b = some o := fun b o e => by
      show (match H' b with
        | some o => some o
        | none => if h : ∃ a, PV b a then some (CellO b (Classical.choose h)) else none) = some o
      rw [e]
    have hC : ∀ b a, PV b a → H'' b = some (CellO b a) := fun b a h => by
      have hn : H' b = none := by
        obtain ⟨y, j, c1, _⟩ := h
        exact J.freeC y b c1
      show (match H' b with
        | some o => some o
        | none => if h : ∃ a, PV b a then some (CellO b (Classical.choose h)) else none) = some _
      rw [hn]
      have hex : ∃ a, PV b a := ⟨a, h⟩
      show (if h : ∃ a, PV b a then some (CellO b (Classical.choose h)) else none) = some _
      rw [dif_pos hex]
      rw [pvU b _ _ (Classical.choose_spec hex) h]
    have hN : ∀ b, H' b = none → (∀ a, ¬ PV b a) → H'' b = none := fun b e n => by
      show (match H' b with
        | some o => some o
        | none => if h : ∃ a, PV b a then some (CellO b (Classical.choose h)) else none) = none
      rw [e]
      show (if h : ∃ a, PV b a then some (CellO b (Classical.choose h)) else none) = none
      rw [dif_neg (fun ⟨a, h⟩ => n a h)]
    have newC : ∀ b a, PV b a → s.heap.objs.size ≤ b := fun b a ⟨y, j, c1, _⟩ => J.ok.cab y b rfl c1
    refine ⟨v, H'', J.os, J.bare, ⟨J.base.keep, J.base.slot, fun b o e n hx => ?_, J.base.there, fun b xs e => hS _ _ (J.base.tups b xs e), fun b o u e => hS _ _ (J.base.frzs b o u e), fun b qs e => ?_⟩, fun b o e => ?_, rv, q H'' hS ⟨injC, fun y hy => ?_, fun y j c a n1 k1 c1 s1 => hC c a ⟨y, j, c1, n1, k1, s1⟩⟩⟩
    · refine hN b (J.base.free b o e n hx) fun a h => ?_
      exact Nat.lt_irrefl _ (Nat.lt_of_lt_of_le (Heap.lt_size e) (newC b a h))
    · obtain ⟨more, z⟩ := J.base.tbls b qs e
      exact ⟨more, hS _ _ z⟩
    · cases hb : H' b with
      | some o' =>
        have e' := hS _ _ hb
        rw [e] at e'
        cases e'
        exact (J.hok b o hb).stay (fun c u _ z => z) (fun c z => hS _ _ z) fun c xs z => hS _ _ z
      | none =>
        by_cases hp : ∃ a, PV b a
        · obtain ⟨a, ha⟩ := hp
          have e' := hC b a ha
          rw [e] at e'
          cases e'
          obtain ⟨y, j, c1, n1, k1, s1⟩ := ha
          obtain ⟨m, hn, hl'⟩ := J.loc
          obtain ⟨u', ru, lk'⟩ := hl' j y a n1 s1 (.inr (.inl k1))
          rcases lk' with ⟨z, _⟩ | ⟨_, c2, e2, hc2⟩
          · have z' : scope.names.lookup y = some .local := z
            rw [k1] at z'
            cases z'
          · have e3 : (cellsFrom (s.heap.objs.size + 1) scope.names []).lookup y = some c2 := e2
            rw [c1] at e3
            cases e3
            exact cellO_ok ru hc2
        · rw [hN b hb (fun a h => hp ⟨a, h⟩)] at e
          cases e
    · exact cell_has hy
/-! ### the closure, tracked -/
/-- a closure stands at f: its words F, the names fr that it captured, what their cells hold -/
structure CloAt (H : Hp) (f : Addr) (F : NF) (fr : List Str) (ws : List V) : Prop where
  fn : H f = some (FnO f F)
  co : H F.c = some (CodeO F.c F.qual)
  len : ws.length = fr.length
  all : ∀ y c, F.cl.lookup y = some c → ∃ i : Nat, fr[i]? = some y
  inj : ∀ x y c, F.cl.lookup x = some c → F.cl.lookup y = some c → x = y
  has : ∀ (i : Nat) (y : Str), fr[i]? = some y → ∃ c v, F.cl.lookup y = some c ∧ ws[i]? = some v ∧ H c = some (CellO c v)
theorem CloAt.same {H H' : Hp} {f : Addr} {F : NF} {fr : List Str} {ws : List V} (C : CloAt H f F fr ws) (e : Same H H') : CloAt H' f F fr ws :=
  ⟨e _ _ C.fn, e _ _ C.co, C.len, C.all, C.inj, fun i y h => by
    obtain ⟨c, v, h1, h2, h3⟩ := C.has i y h
    exact ⟨c, v, h1, h2, e _ _ h3⟩⟩
/-- the heap without the cells of cl, and with them again -/
def dropC (cl : List (Str × Addr)) (H : Hp) : Hp := fun b => if b ∈ cl.map (·.2) then none else H b
def addC (cl : List (Str × Addr)) (H H' : Hp) : Hp := fun b => if b ∈ cl.map (·.2) then H b else H' b
theorem dropC_ne {cl : List (Str × Addr)} {H : Hp} {b : Addr} (h : b ∉ cl.map (·.2)) : dropC cl H b = H b := if_neg h
theorem addC_ne {cl : List (Str × Addr)} {H H' : Hp} {b : Addr} (h : b ∉ cl.map (·.2)) : addC cl H H' b = H' b := if_neg h
theorem mem_lk : ∀ {cl : List (Str × Addr)} {b : Addr}, (∀ x y c, (x, c) ∈ cl → (y, c) ∈ cl → x = y) → b ∈ cl.map (·.2) → ∃ y, (y, b) ∈ cl := fun {cl b} _ h => by
  obtain ⟨p, hp, e⟩ := List.mem_map.mp h
  exact ⟨p.1, by rw [← e]; exact hp⟩
/-- every captured cell's name is looked up as itself -/
def ClOk (cl : List (Str × Addr)) : Prop := ∀ y c, (y, c) ∈ cl → cl.lookup y = some c
section
variable {P : Program} {w : World} {K : PySem.W.Frag} {mg : Str → Option Value} {base : Heap} {CX : CXT} {k : Nat} {f : Addr} {F : NF} {ps fr : List Str} {sp : List (Option V) → Sp} {ws : List V}
/-- the closure's call -/
theorem run_clo (G : NOk P w K mg base C8.CX0 k f F ps fr sp) {A : Around} {outer : List Env} {s : Shared} {H : Hp} {us : List Value} {vs : List V} {Q : VK} (hr : Room k A) (e0 : Env0 P w K mg base A outer s H) (C : CloAt H f F fr ws) (ok : ClOk F.cl) (r : Vals vs us)
    (q : sp (ws.map some) vs (dropC F.cl H) (fun v H' => (∀ b ∈ F.cl.map (·.2), H' b = none) → Q v (addC F.cl H H')) C8.E0) : codeAny (model P w) A (.call (.ref f) ⟨us, []⟩) (CR C8.CX0 outer P w H s Q C8.E0) s := by
  have cellAt : ∀ b, b ∈ F.cl.map (·.2) → ∃ v, H b = some (CellO b v) := fun b hb => by
    obtain ⟨p, hp, e⟩ := List.mem_map.mp hb
    have h1 := ok p.1 p.2 hp
    obtain ⟨i, hi⟩ := C.all _ _ h1
    obtain ⟨c, v, h2, _, h3⟩ := C.has i _ hi
    rw [h1] at h2
    cases h2
    rw [← e]
    exact ⟨v, h3⟩
  have outC : ∀ b o, H b = some o → (∀ v, o ≠ CellO b v) → b ∉ F.cl.map (·.2) := fun b o e n hb => by
    obtain ⟨v, z⟩ := cellAt b hb
    rw [e] at z
    exact n v (Option.some.inj z)
  have outN : ∀ b, H b = none → b ∉ F.cl.map (·.2) := fun b e hb => by
    obtain ⟨v, z⟩ := cellAt b hb
    rw [e] at z
    cases z
  have okD : HOk P w (dropC F.cl H) s.heap := fun b o e => by
    by_cases hb : b ∈ F.cl.map (·.2)
    · have z : dropC F.cl H b = none := if_pos hb
      rw [z] at e
      cases e
    · rw [dropC_ne hb] at e
      refine (e0.hok b o e).stay (fun c u _ z => z) (fun c z => ?_) fun c xs z => ?_
      · rw [dropC_ne (outC c _ z fun v q => by cases q)]
        exact z
      · rw [dropC_ne (outC c _ z fun v q => by cases q)]
        exact z
  have e1 : Env0 P w K mg base A outer s (dropC F.cl H) := ⟨e0.frames, e0.mod, fun b o e => ⟨(e0.bs b o e).1, by
      have z := (e0.bs b o e).2
      rw [dropC_ne (outN b z)]
      exact z⟩, e0.bsz, e0.funs, fun b hb => by
      have z := e0.frf b hb
      rw [dropC_ne (outN b z)]
      exact z, okD, e0.bare⟩
  have CA : CellsAt F.cl fr (ws.map some) s.heap (dropC F.cl H) := by
    refine ⟨by rw [List.length_map]; exact C.len, fun y c e => ⟨if_pos (List.mem_map.mpr ⟨(y, c), PySem.mem_of_lookup e, rfl⟩), ?_⟩, C.inj, fun i y e => ?_⟩
    · obtain ⟨v, z⟩ := cellAt c (List.mem_map.mpr ⟨(y, c), PySem.mem_of_lookup e, rfl⟩)
      obtain ⟨u, _, hu⟩ := cellO_at (e0.hok c _ z)
      exact ⟨_, hu⟩
    · obtain ⟨c, v, h1, h2, h3⟩ := C.has i y e
      refine ⟨c, h1, fun v' ev => ?_⟩
      rw [List.getElem?_map, h2] at ev
      cases ev
      exact cellO_at (e0.hok c _ h3)
  have hf : dropC F.cl H f = some (FnO f F) := by
    by_cases hb : f ∈ F.cl.map (·.2)
    · obtain ⟨v, z⟩ := cellAt f hb
      have z2 := C.fn
      obtain ⟨u, _, o, ho, hd⟩ := cellO_at (e0.hok f _ z)
      obtain ⟨od, sl, doc, pm, ctv, ho2⟩ := fnO_at e0.hok z2
      rw [ho2] at ho
      cases ho
      cases hd
    · rw [dropC_ne hb]
      exact C.fn
  have hc : dropC F.cl H F.c = some (CodeO F.c F.qual) := by
    by_cases hb : F.c ∈ F.cl.map (·.2)
    · obtain ⟨v, z⟩ := cellAt _ hb
      obtain ⟨u, _, o, ho, hd⟩ := cellO_at (e0.hok _ _ z)
      obtain ⟨c2, oc, us2, t, ec, ho2, hd2, _⟩ := codeO_at e0.hok C.co
      cases ec
      rw [ho2] at ho
      cases ho
      rw [hd2] at hd
      cases hd
    · rw [dropC_ne hb]
      exact C.co
  refine codeAny_mono (G.run A outer s (dropC F.cl H) us vs (ws.map some) _ C8.E0 hr e1 hf hc CA r q) fun res s' hq => ?_
  cases res with
  | error e => exact False.elim hq
  | ok fl =>
    cases fl with
    | next => exact False.elim hq
    | brk => exact False.elim hq
    | cont => exact False.elim hq
    | ret u =>
      obtain ⟨v, H', os, bare, un, hok', rv, q2⟩ := hq
      have nE : ∀ b : Addr, b ∉ ([] : List Addr) := fun b z => absurd z (by simp)
      have cellK : ∀ b, b ∈ F.cl.map (·.2) → H' b = none ∧ ∃ v, H b = some (CellO b v) ∧ ∃ u, L2.RelV v u ∧ s'.heap.IsCell b (some u) := fun b hb => by
        obtain ⟨v, z⟩ := cellAt b hb
        obtain ⟨u, ru, o, ho, hd⟩ := cellO_at (e0.hok b _ z)
        have dn : dropC F.cl H b = none := if_pos hb
        have nf : b ∉ frs outer := fun hz => by
          rw [e0.frf b hz] at z
          cases z
        exact ⟨un.free b o ho dn (nE b), v, z, u, ru, o, un.keep b o ho dn nf (nE b), hd⟩
      have outC' : ∀ b o, H' b = some o → b ∉ F.cl.map (·.2) := fun b o e hb => by
        rw [(cellK b hb).1] at e
        cases e
      refine ⟨v, addC F.cl H H', os, bare, ⟨fun b o e n h1 h2 => ?_, fun b o e n h1 h2 => ?_, fun b o e n h2 => ?_, un.there, fun b xs e => ?_, fun b o u e => ?_, fun b qs e => ?_⟩, fun b o e => ?_, rv, q2 fun b hb => (cellK b hb).1⟩
      · exact un.keep b o e (by rw [dropC_ne (outN b n)]; exact n) h1 h2
      · exact un.slot b o e (by rw [dropC_ne (outN b n)]; exact n) h1 h2
      · rw [addC_ne (outN b n)]
        exact un.free b o e (by rw [dropC_ne (outN b n)]; exact n) h2
      · have hb := outC b _ e fun v q => by cases q
        rw [addC_ne hb]
        exact un.tups b xs (by rw [dropC_ne hb]; exact e)
      · have hb := outC b _ e fun v q => by cases q
        rw [addC_ne hb]
        exact un.frzs b o u (by rw [dropC_ne hb]; exact e)
      · have hb := outC b _ e fun v q => by cases q
        rw [addC_ne hb]
        exact un.tbls b qs (by rw [dropC_ne hb]; exact e)
      · by_cases hb : b ∈ F.cl.map (·.2)
        · have z : addC F.cl H H' b = H b := if_pos hb
          rw [z] at e
          obtain ⟨_, v, e2, u, ru, hu⟩ := cellK b hb
          rw [e2] at e
          cases e
          exact cellO_ok ru hu
        · rw [addC_ne hb] at e
          refine (hok' b o e).stay (fun c u _ z => z) (fun c z => ?_) fun c xs z => ?_
          · rw [addC_ne (outC' c _ z)]
            exact z
          · rw [addC_ne (outC' c _ z)]
            exact z
end
/-- a def's own closure, from its tracked cells -/
theorem clOk_from {cells : List (Str × Addr)} {names : List (Str × NameKind)} : ClOk (cloFrom cells names []) := fun y c h => by
  obtain ⟨c', h'⟩ := mem_lookup h
  have h2 := PySem.mem_of_lookup h'
  rcases cloFrom_mem h with z | ⟨_, e1⟩
  · cases z
  · rcases cloFrom_mem h2 with z | ⟨_, e2⟩
    · cases z
    · rw [h', e1, e2]
theorem clo_of {cells : List (Str × Addr)} {sc nsc : Scope} {N ps fr Nn : List Str} {σ : L2.St} {H : Hp} {f : Addr} {F : NF} {js : List Nat} {ws : List V} (T : TrackedAt cells sc N σ H) (hcl : F.cl = cloFrom cells nsc.names []) (S : NScope Nn ps fr nsc)
    (hfree : ∀ y ∈ nsc.names, y.2 = .free → sc.names.lookup y.1 = some .cell) (h1 : H f = some (FnO f F)) (h2 : H F.c = some (CodeO F.c F.qual)) (hjs : js.map (fun j => N[j]?) = fr.map some) (hws : js.map (fun j => σ[j]?) = ws.map fun v => some (some v)) : CloAt H f F fr ws := by
  have ln1 : js.length = fr.length := by
    have q := congrArg List.length hjs
    rwa [List.length_map, List.length_map] at q
  have ln2 : js.length = ws.length := by
    have q := congrArg List.length hws
    rwa [List.length_map, List.length_map] at q
  have hf : ∀ y ∈ nsc.names, y.2 = .free → ∃ c, cells.lookup y.1 = some c := fun y hy e => T.has _ (hfree y hy e)
  refine ⟨h1, h2, ln2.symm.trans ln1, fun y c e => ?_, fun x y c e1 e2 => ?_, fun i y e => ?_⟩
  · rw [hcl] at e
    rcases cloFrom_mem (PySem.mem_of_lookup e) with z | ⟨z, _⟩
    · cases z
    · exact List.mem_iff_getElem?.mp (S.free _ z rfl)
  · rw [hcl] at e1 e2
    exact T.inj x y c (clo_cm hf e1) (clo_cm hf e2)
  · have k : (y, NameKind.free) ∈ nsc.names := PySem.mem_of_lookup (S.frk y (List.mem_of_getElem? e))
    obtain ⟨c, hc⟩ := hf _ k rfl
    have hi : i < js.length := by
      rw [ln1]
      exact (List.getElem?_eq_some_iff.mp e).1
    have a1 : N[js[i]]? = some y := by
      have q : (js.map fun j => N[j]?)[i]? = (fr.map some)[i]? := by rw [hjs]
      rw [List.getElem?_map, List.getElem?_map, List.getElem?_eq_getElem hi, e] at q
      exact Option.some.inj q
    have hw : i < ws.length := ln2 ▸ hi
    have a2 : σ[js[i]]? = some (some ws[i]) := by
      have q : (js.map fun j => σ[j]?)[i]? = (ws.map fun v => some (some v))[i]? := by rw [hws]
      rw [List.getElem?_map, List.getElem?_map, List.getElem?_eq_getElem hi, List.getElem?_eq_getElem hw] at q
      exact Option.some.inj q
    refine ⟨c, ws[i], ?_, List.getElem?_eq_getElem hw, T.val y js[i] c ws[i] a1 (hfree _ k rfl) hc a2⟩
    rw [hcl]
    exact clo_has hf k hc
/-! ### a call of a name that holds a closure -/
/-- whoever calls the object at f with such arguments, at such a heap -/
structure CallOk (P : Program) (w : World) (K : PySem.W.Frag) (mg : Str → Option Value) (base : Heap) (k : Nat) (spc : Addr → Sp) : Prop where
  fn : ∀ f vs H Q E, spc f vs H Q E → ∃ F, H f = some (FnO f F)
  run : ∀ (f : Addr) (A : Around) (outer : List Env) (s : Shared) (H : Hp) (us : List Value) (vs : List V) (Q : VK), Room k A → Env0 P w K mg base A outer s H → Vals vs us → spc f vs H Q C8.E0 → codeAny (model P w) A (.call (.ref f) ⟨us, []⟩) (CR C8.CX0 outer P w H s Q C8.E0) s
def tCallC (i : Nat) (spc : Addr → Sp) (t : TA) : TE := fun σ H Q => ∃ f, σ[i]? = some (some (.ref f)) ∧ (∃ F, H f = some (FnO f F)) ∧ t σ H fun vs H1 => spc f vs H1 Q C8.E0
section
variable {X : Cx} {k i : Nat} {spc : Addr → Sp} {t : TA} {e : Expr} {es : List Expr} {p pos : Pos} {x : Str}
theorem pe_callc (G : CallOk X.prog X.w X.K X.mg X.base k spc) (hr : Room k X.A) (hN : X.N[i]? = some x) (hv : Vis X.env.scope x) (ha : PA X (e :: es) t)
    (hd : (x == ("__debug__" : Str)) = false := by decide) (hcd : (x == ("__classdict__" : Str)) = false := by decide)
    (he : starEach (e :: es) X.env = (false, eval e X.env) :: starEach es X.env := by rfl) (hpl : (backTo pos (starEach es X.env)).any (·.1) = false := by rfl) :
    PE X (.Call (.Name x p) (e :: es) [] pos) (tCallC i spc t) := by
  refine ⟨fun pins s σ H Q I h => ?_⟩
  obtain ⟨f, hs, ⟨F, hf⟩, ht⟩ := h
  refine wpAny_Call_Name_kw (thn ((pe_var (pos := p) hN hv hd hcd).run pins s σ H (fun v H1 => v = .ref f ∧ H1 = H) I ⟨.ref f, hs, rfl, rfl⟩) fun u s1 ⟨v, H1, I1, r1, q1⟩ => ?_)
  obtain ⟨ev, eH⟩ := q1
  subst ev
  rw [eH] at I1
  obtain rfl : u = Value.ref f := r1
  refine PySem.W.callWith_F (first := []) (fnAt_of I1 hf) (thn (ha.run pos pins s1 σ H _ I1 ht) fun us s2 ⟨vs, H2, I2, r, q⟩ => ?_) he hpl
  obtain ⟨F2, hf2⟩ := G.fn _ _ _ _ _ q
  refine ⟨fnAt_of I2 hf2, ?_⟩
  show wpAny _ _ (call (.ref f) us) _ _ _
  refine wpAny_call (codeAny_mono (G.run f X.A X.stack s2 H2 us vs Q hr I2.env0 r q) fun res s' hq => ?_)
  cases res with
  | error e => exact False.elim hq
  | ok fl =>
    cases fl with
    | ret u => exact I2.after hq
    | next => exact False.elim hq
    | brk => exact False.elim hq
    | cont => exact False.elim hq
end
end Clo
end K1
section D0
/-! The facts by names; a def's promise, a method's, a class's, from what the head tells. -/
namespace Th
open PySem PySem.Spec PyProof.Rows L2
structure Tx (K : PySem.W.Frag) (mg : Str → Option Value) : Prop where
  says : He.SaysD fa fn K
  here : ∃ h : Heap, K.In h ∧ h.Ns mainGlobals mg
section
variable {K : PySem.W.Frag} {mg : Str → Option Value}
abbrev cRoll (K : PySem.W.Frag) : Addr := He.ga K "Roll"
abbrev cBook (K : PySem.W.Frag) : Addr := He.ga K "Book"
abbrev cRule (K : PySem.W.Frag) : Addr := He.ga K "Rule"
theorem Tx.g_cut_at (T : Tx K mg) : mg "cut_at" = some (.ref (He.ga K "cut_at")) := by
  obtain ⟨h, X, G⟩ := T.here
  exact He.glo_ok X G (T.says.fact 0 (f := .glo "cut_at") rfl)
theorem Tx.g_edges_at (T : Tx K mg) : mg "edges_at" = some (.ref (He.ga K "edges_at")) := by
  obtain ⟨h, X, G⟩ := T.here
  exact He.glo_ok X G (T.says.fact 1 (f := .glo "edges_at") rfl)
theorem Tx.g_greater (T : Tx K mg) : mg "greater" = some (.ref (He.ga K "greater")) := by
  obtain ⟨h, X, G⟩ := T.here
  exact He.glo_ok X G (T.says.fact 2 (f := .glo "greater") rfl)
theorem Tx.g_Roll (T : Tx K mg) : mg "Roll" = some (.ref (He.ga K "Roll")) := by
  obtain ⟨h, X, G⟩ := T.here
  exact He.glo_ok X G (T.says.fact 3 (f := .glo "Roll") rfl)
theorem Tx.g_roll_of (T : Tx K mg) : mg "roll_of" = some (.ref (He.ga K "roll_of")) := by
  obtain ⟨h, X, G⟩ := T.here
  exact He.glo_ok X G (T.says.fact 4 (f := .glo "roll_of") rfl)
theorem Tx.g_is_word (T : Tx K mg) : mg "is_word" = some (.ref (He.ga K "is_word")) := by
  obtain ⟨h, X, G⟩ := T.here
  exact He.glo_ok X G (T.says.fact 5 (f := .glo "is_word") rfl)
theorem Tx.g_is_name (T : Tx K mg) : mg "is_name" = some (.ref (He.ga K "is_name")) := by
  obtain ⟨h, X, G⟩ := T.here
  exact He.glo_ok X G (T.says.fact 6 (f := .glo "is_name") rfl)
theorem Tx.g_is_mark (T : Tx K mg) : mg "is_mark" = some (.ref (He.ga K "is_mark")) := by
  obtain ⟨h, X, G⟩ := T.here
  exact He.glo_ok X G (T.says.fact 7 (f := .glo "is_mark") rfl)
theorem Tx.g_sieve (T : Tx K mg) : mg "sieve" = some (.ref (He.ga K "sieve")) := by
  obtain ⟨h, X, G⟩ := T.here
  exact He.glo_ok X G (T.says.fact 8 (f := .glo "sieve") rfl)
theorem Tx.g_marks_looked_at (T : Tx K mg) : mg "marks_looked_at" = some (.ref (He.ga K "marks_looked_at")) := by
  obtain ⟨h, X, G⟩ := T.here
  exact He.glo_ok X G (T.says.fact 9 (f := .glo "marks_looked_at") rfl)
theorem Tx.g_Book (T : Tx K mg) : mg "Book" = some (.ref (He.ga K "Book")) := by
  obtain ⟨h, X, G⟩ := T.here
  exact He.glo_ok X G (T.says.fact 10 (f := .glo "Book") rfl)
theorem Tx.g_Rule (T : Tx K mg) : mg "Rule" = some (.ref (He.ga K "Rule")) := by
  obtain ⟨h, X, G⟩ := T.here
  exact He.glo_ok X G (T.says.fact 11 (f := .glo "Rule") rfl)
theorem Tx.g_law_cell_at (T : Tx K mg) : mg "_law_cell_at" = some (.ref (He.ga K "_law_cell_at")) := by
  obtain ⟨h, X, G⟩ := T.here
  exact He.glo_ok X G (T.says.fact 12 (f := .glo "_law_cell_at") rfl)
theorem Tx.g_law_mixed (T : Tx K mg) : mg "_law_mixed" = some (.ref (He.ga K "_law_mixed")) := by
  obtain ⟨h, X, G⟩ := T.here
  exact He.glo_ok X G (T.says.fact 13 (f := .glo "_law_mixed") rfl)
theorem Tx.g_law_name (T : Tx K mg) : mg "_law_name" = some (.ref (He.ga K "_law_name")) := by
  obtain ⟨h, X, G⟩ := T.here
  exact He.glo_ok X G (T.says.fact 14 (f := .glo "_law_name") rfl)
theorem Tx.g_law_mark (T : Tx K mg) : mg "_law_mark" = some (.ref (He.ga K "_law_mark")) := by
  obtain ⟨h, X, G⟩ := T.here
  exact He.glo_ok X G (T.says.fact 15 (f := .glo "_law_mark") rfl)
theorem Tx.g_law_book (T : Tx K mg) : mg "_law_book" = some (.ref (He.ga K "_law_book")) := by
  obtain ⟨h, X, G⟩ := T.here
  exact He.glo_ok X G (T.says.fact 16 (f := .glo "_law_book") rfl)
theorem Tx.g_law_own (T : Tx K mg) : mg "_law_own" = some (.ref (He.ga K "_law_own")) := by
  obtain ⟨h, X, G⟩ := T.here
  exact He.glo_ok X G (T.says.fact 17 (f := .glo "_law_own") rfl)
theorem Tx.g_law_by_text (T : Tx K mg) : mg "_law_by_text" = some (.ref (He.ga K "_law_by_text")) := by
  obtain ⟨h, X, G⟩ := T.here
  exact He.glo_ok X G (T.says.fact 18 (f := .glo "_law_by_text") rfl)
theorem Tx.g_law_by_own (T : Tx K mg) : mg "_law_by_own" = some (.ref (He.ga K "_law_by_own")) := by
  obtain ⟨h, X, G⟩ := T.here
  exact He.glo_ok X G (T.says.fact 19 (f := .glo "_law_by_own") rfl)
theorem Tx.g_law (T : Tx K mg) : mg "law" = some (.ref (He.ga K "law")) := by
  obtain ⟨h, X, G⟩ := T.here
  exact He.glo_ok X G (T.says.fact 20 (f := .glo "law") rfl)
theorem Tx.z_len (T : Tx K mg) : mg "len" = none := by
  obtain ⟨h, X, G⟩ := T.here
  exact He.free_ok X G (T.says.fact 21 (f := .free "len") rfl)
theorem Tx.z_range (T : Tx K mg) : mg "range" = none := by
  obtain ⟨h, X, G⟩ := T.here
  exact He.free_ok X G (T.says.fact 22 (f := .free "range") rfl)
theorem Tx.z_sorted (T : Tx K mg) : mg "sorted" = none := by
  obtain ⟨h, X, G⟩ := T.here
  exact He.free_ok X G (T.says.fact 23 (f := .free "sorted") rfl)
theorem Tx.z_zip (T : Tx K mg) : mg "zip" = none := by
  obtain ⟨h, X, G⟩ := T.here
  exact He.free_ok X G (T.says.fact 24 (f := .free "zip") rfl)
theorem Tx.z_all (T : Tx K mg) : mg "all" = none := by
  obtain ⟨h, X, G⟩ := T.here
  exact He.free_ok X G (T.says.fact 25 (f := .free "all") rfl)
theorem Tx.z_isinstance (T : Tx K mg) : mg "isinstance" = none := by
  obtain ⟨h, X, G⟩ := T.here
  exact He.free_ok X G (T.says.fact 26 (f := .free "isinstance") rfl)
theorem Tx.z_list (T : Tx K mg) : mg "list" = none := by
  obtain ⟨h, X, G⟩ := T.here
  exact He.free_ok X G (T.says.fact 27 (f := .free "list") rfl)
theorem Tx.z_str (T : Tx K mg) : mg "str" = none := by
  obtain ⟨h, X, G⟩ := T.here
  exact He.free_ok X G (T.says.fact 28 (f := .free "str") rfl)
theorem Tx.i_MOST_OF_NAME (T : Tx K mg) : ∃ t, mg "MOST_OF_NAME" = some (.int 12 t) := by
  obtain ⟨h, X, G⟩ := T.here
  exact He.int_ok X G (T.says.fact 29 (f := .int "MOST_OF_NAME" 12) rfl)
theorem Tx.i_MOST_OF_MARK (T : Tx K mg) : ∃ t, mg "MOST_OF_MARK" = some (.int 8 t) := by
  obtain ⟨h, X, G⟩ := T.here
  exact He.int_ok X G (T.says.fact 30 (f := .int "MOST_OF_MARK" 8) rfl)
theorem Tx.i_MOST_MARKS (T : Tx K mg) : ∃ t, mg "MOST_MARKS" = some (.int 8 t) := by
  obtain ⟨h, X, G⟩ := T.here
  exact He.int_ok X G (T.says.fact 31 (f := .int "MOST_MARKS" 8) rfl)
theorem Tx.i_MOST_STEPS (T : Tx K mg) : ∃ t, mg "MOST_STEPS" = some (.int 5 t) := by
  obtain ⟨h, X, G⟩ := T.here
  exact He.int_ok X G (T.says.fact 32 (f := .int "MOST_STEPS" 5) rfl)
theorem Tx.i_SMALL (T : Tx K mg) : ∃ t, mg "SMALL" = some (.str "abcdefghijklmnopqrstuvwxyz" t) := by
  obtain ⟨h, X, G⟩ := T.here
  exact He.str_ok X G (T.says.fact 33 (f := .str "SMALL" "abcdefghijklmnopqrstuvwxyz") rfl)
theorem Tx.c_Roll (T : Tx K mg) : Cls K (cRoll K) := He.cls_ok (T.says.fact 34 (f := .cls "Roll") rfl)
theorem Tx.c_Book (T : Tx K mg) : Cls K (cBook K) := He.cls_ok (T.says.fact 35 (f := .cls "Book") rfl)
theorem Tx.c_Rule (T : Tx K mg) : Cls K (cRule K) := He.cls_ok (T.says.fact 36 (f := .cls "Rule") rfl)
theorem Tx.n_Roll_ruling (T : Tx K mg) : NoAttr K (cRoll K) "ruling" := He.noat_ok (T.says.fact 37 (f := .noat "Roll" "ruling") rfl)
theorem Tx.n_Roll_today (T : Tx K mg) : NoAttr K (cRoll K) "today" := He.noat_ok (T.says.fact 38 (f := .noat "Roll" "today") rfl)
theorem Tx.n_Roll_limits (T : Tx K mg) : NoAttr K (cRoll K) "limits" := He.noat_ok (T.says.fact 39 (f := .noat "Roll" "limits") rfl)
theorem Tx.n_Roll_whole (T : Tx K mg) : NoAttr K (cRoll K) "whole" := He.noat_ok (T.says.fact 40 (f := .noat "Roll" "whole") rfl)
theorem Tx.n_Roll_heaped (T : Tx K mg) : NoAttr K (cRoll K) "heaped" := He.noat_ok (T.says.fact 41 (f := .noat "Roll" "heaped") rfl)
theorem Tx.n_Book_ruling (T : Tx K mg) : NoAttr K (cBook K) "ruling" := He.noat_ok (T.says.fact 42 (f := .noat "Book" "ruling") rfl)
theorem Tx.n_Book_today (T : Tx K mg) : NoAttr K (cBook K) "today" := He.noat_ok (T.says.fact 43 (f := .noat "Book" "today") rfl)
theorem Tx.n_Book_limits (T : Tx K mg) : NoAttr K (cBook K) "limits" := He.noat_ok (T.says.fact 44 (f := .noat "Book" "limits") rfl)
theorem Tx.n_Book_rolls (T : Tx K mg) : NoAttr K (cBook K) "rolls" := He.noat_ok (T.says.fact 45 (f := .noat "Book" "rolls") rfl)
theorem Tx.n_Book_signs (T : Tx K mg) : NoAttr K (cBook K) "signs" := He.noat_ok (T.says.fact 46 (f := .noat "Book" "signs") rfl)
theorem Tx.n_Rule_row (T : Tx K mg) : NoAttr K (cRule K) "row" := He.noat_ok (T.says.fact 47 (f := .noat "Rule" "row") rfl)
theorem Tx.n_Rule_end (T : Tx K mg) : NoAttr K (cRule K) "end" := He.noat_ok (T.says.fact 48 (f := .noat "Rule" "end") rfl)
theorem Tx.m_Roll_lift (T : Tx K mg) : Meth K (cRoll K) "lift" (He.ma K (cRoll K) "lift") := He.meth_ok (T.says.fact 49 (f := .meth "Roll" "lift") rfl)
theorem Tx.m_Rule_steps (T : Tx K mg) : Meth K (cRule K) "steps" (He.ma K (cRule K) "steps") := He.meth_ok (T.says.fact 50 (f := .meth "Rule" "steps") rfl)
theorem Tx.m_Rule_gone (T : Tx K mg) : Meth K (cRule K) "gone" (He.ma K (cRule K) "gone") := He.meth_ok (T.says.fact 51 (f := .meth "Rule" "gone") rfl)
theorem Tx.m_Book_bare (T : Tx K mg) : Meth K (cBook K) "bare" (He.ma K (cBook K) "bare") := He.meth_ok (T.says.fact 52 (f := .meth "Book" "bare") rfl)
theorem Tx.m_Book_adopt (T : Tx K mg) : Meth K (cBook K) "adopt" (He.ma K (cBook K) "adopt") := He.meth_ok (T.says.fact 53 (f := .meth "Book" "adopt") rfl)
theorem Tx.m_Book_enrol (T : Tx K mg) : Meth K (cBook K) "enrol" (He.ma K (cBook K) "enrol") := He.meth_ok (T.says.fact 54 (f := .meth "Book" "enrol") rfl)
theorem Tx.m_Book_sought (T : Tx K mg) : Meth K (cBook K) "sought" (He.ma K (cBook K) "sought") := He.meth_ok (T.says.fact 55 (f := .meth "Book" "sought") rfl)
theorem Tx.m_Book_chosen (T : Tx K mg) : Meth K (cBook K) "chosen" (He.ma K (cBook K) "chosen") := He.meth_ok (T.says.fact 56 (f := .meth "Book" "chosen") rfl)
theorem Tx.m_Book_names (T : Tx K mg) : Meth K (cBook K) "names" (He.ma K (cBook K) "names") := He.meth_ok (T.says.fact 57 (f := .meth "Book" "names") rfl)
theorem Tx.m_Book_marks (T : Tx K mg) : Meth K (cBook K) "marks" (He.ma K (cBook K) "marks") := He.meth_ok (T.says.fact 58 (f := .meth "Book" "marks") rfl)
theorem Tx.k_Roll (T : Tx K mg) : Mk K (cRoll K) (He.ma K (cRoll K) "__init__") := He.mkr_ok (T.says.fact 59 (f := .mkr "Roll") rfl)
theorem Tx.k_Book (T : Tx K mg) : Mk K (cBook K) (He.ma K (cBook K) "__init__") := He.mkr_ok (T.says.fact 60 (f := .mkr "Book") rfl)
theorem Tx.k_Rule (T : Tx K mg) : Mk K (cRule K) (He.ma K (cRule K) "__init__") := He.mkr_ok (T.says.fact 61 (f := .mkr "Rule") rfl)
theorem Tx.d_cut_at (T : Tx K mg) : ∃ fd, FunD K "cut_at" "cut_at" (defArgs s_cut_at) (defBody s_cut_at) (defScope s_cut_at) [] [] (He.ga K "cut_at") fd := T.says.def_ 0 (d := dG "cut_at" s_cut_at) rfl
theorem Tx.d_edges_at (T : Tx K mg) : ∃ fd, FunD K "edges_at" "edges_at" (defArgs s_edges_at) (defBody s_edges_at) (defScope s_edges_at) [] [] (He.ga K "edges_at") fd := T.says.def_ 1 (d := dG "edges_at" s_edges_at) rfl
theorem Tx.d_greater (T : Tx K mg) : ∃ fd, FunD K "greater" "greater" (defArgs s_greater) (defBody s_greater) (defScope s_greater) [] [] (He.ga K "greater") fd := T.says.def_ 2 (d := dG "greater" s_greater) rfl
theorem Tx.d_Roll_init (T : Tx K mg) : ∃ fd, FunD K "__init__" "Roll.__init__" (defArgs s_RollInit) (defBody s_RollInit) (defScope s_RollInit) [] [] (He.ma K (cRoll K) "__init__") fd := T.says.def_ 3 (d := dM "Roll" "__init__" "Roll.__init__" s_RollInit []) rfl
theorem Tx.d_Roll_lift (T : Tx K mg) : ∃ fd, FunD K "lift" "Roll.lift" (defArgs s_RollLift) (defBody s_RollLift) (defScope s_RollLift) [] [] (He.ma K (cRoll K) "lift") fd := T.says.def_ 4 (d := dM "Roll" "lift" "Roll.lift" s_RollLift []) rfl
theorem Tx.d_roll_of (T : Tx K mg) : ∃ fd, FunD K "roll_of" "roll_of" (defArgs s_roll_of) (defBody s_roll_of) (defScope s_roll_of) [] [] (He.ga K "roll_of") fd := T.says.def_ 5 (d := dG "roll_of" s_roll_of) rfl
theorem Tx.d_is_word (T : Tx K mg) : ∃ fd, FunD K "is_word" "is_word" (defArgs s_is_word) (defBody s_is_word) (defScope s_is_word) [] [] (He.ga K "is_word") fd := T.says.def_ 6 (d := dG "is_word" s_is_word) rfl
theorem Tx.d_is_name (T : Tx K mg) : ∃ fd, FunD K "is_name" "is_name" (defArgs s_is_name) (defBody s_is_name) (defScope s_is_name) [] [] (He.ga K "is_name") fd := T.says.def_ 7 (d := dG "is_name" s_is_name) rfl
theorem Tx.d_is_mark (T : Tx K mg) : ∃ fd, FunD K "is_mark" "is_mark" (defArgs s_is_mark) (defBody s_is_mark) (defScope s_is_mark) [] [] (He.ga K "is_mark") fd := T.says.def_ 8 (d := dG "is_mark" s_is_mark) rfl
theorem Tx.d_sieve (T : Tx K mg) : ∃ fd, FunD K "sieve" "sieve" (defArgs s_sieve) (defBody s_sieve) (defScope s_sieve) [] [] (He.ga K "sieve") fd := T.says.def_ 9 (d := dG "sieve" s_sieve) rfl
theorem Tx.d_marks_looked_at (T : Tx K mg) : ∃ fd, FunD K "marks_looked_at" "marks_looked_at" (defArgs s_marks_looked_at) (defBody s_marks_looked_at) (defScope s_marks_looked_at) [] [] (He.ga K "marks_looked_at") fd := T.says.def_ 10 (d := dG "marks_looked_at" s_marks_looked_at) rfl
theorem Tx.d_Book_init (T : Tx K mg) : ∃ fd, FunD K "__init__" "Book.__init__" (defArgs s_BookInit) (defBody s_BookInit) (defScope s_BookInit) [] [] (He.ma K (cBook K) "__init__") fd := T.says.def_ 11 (d := dM "Book" "__init__" "Book.__init__" s_BookInit []) rfl
theorem Tx.d_Book_bare (T : Tx K mg) : ∃ fd, FunD K "bare" "Book.bare" (defArgs s_bare) (defBody s_bare) (defScope s_bare) [] [] (He.ma K (cBook K) "bare") fd := T.says.def_ 12 (d := dM "Book" "bare" "Book.bare" s_bare []) rfl
theorem Tx.d_Book_adopt (T : Tx K mg) : ∃ fd, FunD K "adopt" "Book.adopt" (defArgs s_adopt) (defBody s_adopt) (defScope s_adopt) [] [] (He.ma K (cBook K) "adopt") fd := T.says.def_ 13 (d := dM "Book" "adopt" "Book.adopt" s_adopt []) rfl
theorem Tx.d_Book_enrol (T : Tx K mg) : ∃ fd, FunD K "enrol" "Book.enrol" (defArgs s_enrol) (defBody s_enrol) (defScope s_enrol) [V.non] [] (He.ma K (cBook K) "enrol") fd := T.says.def_ 14 (d := dM "Book" "enrol" "Book.enrol" s_enrol [.non]) rfl
theorem Tx.d_Book_sought (T : Tx K mg) : ∃ fd, FunD K "sought" "Book.sought" (defArgs s_sought) (defBody s_sought) (defScope s_sought) [] [] (He.ma K (cBook K) "sought") fd := T.says.def_ 15 (d := dM "Book" "sought" "Book.sought" s_sought []) rfl
theorem Tx.d_Book_chosen (T : Tx K mg) : ∃ fd, FunD K "chosen" "Book.chosen" (defArgs s_chosen) (defBody s_chosen) (defScope s_chosen) [] [] (He.ma K (cBook K) "chosen") fd := T.says.def_ 16 (d := dM "Book" "chosen" "Book.chosen" s_chosen []) rfl
theorem Tx.d_Book_names (T : Tx K mg) : ∃ fd, FunD K "names" "Book.names" (defArgs s_names) (defBody s_names) (defScope s_names) [] [] (He.ma K (cBook K) "names") fd := T.says.def_ 17 (d := dM "Book" "names" "Book.names" s_names []) rfl
theorem Tx.d_Book_marks (T : Tx K mg) : ∃ fd, FunD K "marks" "Book.marks" (defArgs s_marks) (defBody s_marks) (defScope s_marks) [] [] (He.ma K (cBook K) "marks") fd := T.says.def_ 18 (d := dM "Book" "marks" "Book.marks" s_marks []) rfl
theorem Tx.d_Rule_init (T : Tx K mg) : ∃ fd, FunD K "__init__" "Rule.__init__" (defArgs s_RuleInit) (defBody s_RuleInit) (defScope s_RuleInit) [V.non] [] (He.ma K (cRule K) "__init__") fd := T.says.def_ 19 (d := dM "Rule" "__init__" "Rule.__init__" s_RuleInit [.non]) rfl
theorem Tx.d_Rule_steps (T : Tx K mg) : ∃ fd, FunD K "steps" "Rule.steps" (defArgs s_steps) (defBody s_steps) (defScope s_steps) [] [] (He.ma K (cRule K) "steps") fd := T.says.def_ 20 (d := dM "Rule" "steps" "Rule.steps" s_steps []) rfl
theorem Tx.d_Rule_gone (T : Tx K mg) : ∃ fd, FunD K "gone" "Rule.gone" (defArgs s_gone) (defBody s_gone) (defScope s_gone) [] [] (He.ma K (cRule K) "gone") fd := T.says.def_ 21 (d := dM "Rule" "gone" "Rule.gone" s_gone []) rfl
theorem Tx.d_law_cell_at (T : Tx K mg) : ∃ fd, FunD K "_law_cell_at" "_law_cell_at" (defArgs s_cell_at) (defBody s_cell_at) (defScope s_cell_at) [] [] (He.ga K "_law_cell_at") fd := T.says.def_ 22 (d := dG "_law_cell_at" s_cell_at) rfl
theorem Tx.d_law_mixed (T : Tx K mg) : ∃ fd, FunD K "_law_mixed" "_law_mixed" (defArgs s_mixed) (defBody s_mixed) (defScope s_mixed) [] [] (He.ga K "_law_mixed") fd := T.says.def_ 23 (d := dG "_law_mixed" s_mixed) rfl
theorem Tx.d_law_name (T : Tx K mg) : ∃ fd, FunD K "_law_name" "_law_name" (defArgs s_name) (defBody s_name) (defScope s_name) [] [] (He.ga K "_law_name") fd := T.says.def_ 24 (d := dG "_law_name" s_name) rfl
theorem Tx.d_law_mark (T : Tx K mg) : ∃ fd, FunD K "_law_mark" "_law_mark" (defArgs s_mark) (defBody s_mark) (defScope s_mark) [] [] (He.ga K "_law_mark") fd := T.says.def_ 25 (d := dG "_law_mark" s_mark) rfl
theorem Tx.d_law_book (T : Tx K mg) : ∃ fd, FunD K "_law_book" "_law_book" (defArgs s_book) (defBody s_book) (defScope s_book) [] [] (He.ga K "_law_book") fd := T.says.def_ 26 (d := dG "_law_book" s_book) rfl
theorem Tx.d_law_own (T : Tx K mg) : ∃ fd, FunD K "_law_own" "_law_own" (defArgs s_own) (defBody s_own) (defScope s_own) [] [] (He.ga K "_law_own") fd := T.says.def_ 27 (d := dG "_law_own" s_own) rfl
theorem Tx.d_law_by_text (T : Tx K mg) : ∃ fd, FunD K "_law_by_text" "_law_by_text" (defArgs s_by_text) (defBody s_by_text) (defScope s_by_text) [] [] (He.ga K "_law_by_text") fd := T.says.def_ 28 (d := dG "_law_by_text" s_by_text) rfl
theorem Tx.d_law_by_own (T : Tx K mg) : ∃ fd, FunD K "_law_by_own" "_law_by_own" (defArgs s_by_own) (defBody s_by_own) (defScope s_by_own) [] [] (He.ga K "_law_by_own") fd := T.says.def_ 29 (d := dG "_law_by_own" s_by_own) rfl
theorem Tx.d_law (T : Tx K mg) : ∃ fd, FunD K "law" "law" (defArgs s_law) (defBody s_law) (defScope s_law) [] [] (He.ga K "law") fd := T.says.def_ 30 (d := dG "law" s_law) rfl
end
/-! ### promises -/
section
variable {P : Program} {w : World} {K : PySem.W.Frag} {mg : Str → Option Value} {base : Heap} {x m qual : Str} {st : Stmt} {f C : Addr} {fd : FuncData} {N ps : List Str} {ds : List Value} {dvs dwd : List V} {k : Nat} {sp : Sp}
abbrev BodyOk (P : Program) (w : World) (K : PySem.W.Frag) (mg : Str → Option Value) (base : Heap) (k : Nat) (N : List Str) (qual : Str) (st : Stmt) (f : Addr) (sp : Sp) : Prop :=
  ∀ (cdv : Value) (A : Around) (outer : List Env) (s : Shared) (H : Hp) (vs : List V) (Q : VK) (E : XK), Room k (A.deeper (envOfC qual (defScope st) s.heap.objs.size f cdv)) → sp vs H Q E →
      ∃ t, PSs (cxOf C8.CX0 P w K mg base N qual (defScope st) f cdv A outer s H E).nox (defBody st) t ∧ t { nx := fun _ H' => Q .non H', rt := Q } (start N vs) H
theorem fnok_of (F : FunD K x qual (defArgs st) (defBody st) (defScope st) dwd [] f fd) (S : FnScope N ps (defScope st)) (len : ∀ vs H Q E, sp vs H Q E → vs.length = ps.length)
    (hbody : BodyOk P w K mg base k N qual st f sp) : FnOk P w K mg base C8.CX0 (k + 1) f fd ps sp :=
  F.ok S len fun cdv A outer s H vs Q E hr hsp => by
    obtain ⟨t, h, q⟩ := hbody cdv A outer s H vs Q E hr hsp
    exact ⟨t, h.nox, q⟩
theorem cal_of (F : FunD K x x (defArgs st) (defBody st) (defScope st) dwd [] f fd) (hm : mg x = some (.ref f)) (b : Binds K fd ps ds) (d : Vals dvs ds) (S : FnScope N ps (defScope st)) (len : ∀ vs H Q E, sp vs H Q E → vs.length = ps.length)
    (hbody : BodyOk P w K mg base k N x st f sp) : C8.Cal P w K mg base (k + 1) x sp dvs :=
  ⟨f, fd, ps, ds, fnok_of F S len hbody, hm, F.kp, b, d⟩
theorem met_of (c : Cls K C) (me : Meth K C m f) (F : FunD K m qual (defArgs st) (defBody st) (defScope st) dwd [] f fd) (b : Binds K fd ps ds) (d : Vals dvs ds) (S : FnScope N ps (defScope st)) (len : ∀ vs H Q E, sp vs H Q E → vs.length = ps.length)
    (hbody : BodyOk P w K mg base k N qual st f sp) : C8.Met P w K mg base (k + 1) C m sp dvs :=
  ⟨f, fd, ps, ds, c, me, fnok_of F S len hbody, b, d⟩
theorem mak_of (M : Mk K C f) (hm : mg x = some (.ref C)) (F : FunD K "__init__" qual (defArgs st) (defBody st) (defScope st) dwd [] f fd) (b : Binds K fd ps ds) (d : Vals dvs ds) (S : FnScope N ps (defScope st)) (len : ∀ vs H Q E, sp vs H Q E → vs.length = ps.length)
    (hbody : BodyOk P w K mg base k N qual st f sp) : C8.Mak P w K mg base (k + 1) x C sp dvs :=
  ⟨f, fd, ps, ds, M, fnok_of F S len hbody, hm, b, d⟩
end
/-! ### heaps -/
theorem same_upd {H : Hp} {p : Addr} {o : HO} (h : H p = none) : Same H (upd H p o) := fun b x e => by
  rw [upd_ne (ne_of_none e h)]
  exact e
end Th
end D0
section M1
/-! The mirror of the law's draws: plain numbers and lists of codes. -/
namespace Th
open PySem
def mixN (d k : Int) : Int := (d % 2147483629 + 69621 * k + 1) * 48271 % 2147483629
def mixed (d k : Int) : Int := mixN d k * (mixN d k / 1009 + 69621) % 2147483629
theorem mixN_range (d k : Int) : 0 ≤ mixN d k ∧ mixN d k < 2147483629 := by
  unfold mixN
  exact ⟨Int.emod_nonneg _ (by decide), Int.emod_lt_of_pos _ (by decide)⟩
theorem mixed_range (d k : Int) : 0 ≤ mixed d k ∧ mixed d k < 2147483629 := by
  unfold mixed
  exact ⟨Int.emod_nonneg _ (by decide), Int.emod_lt_of_pos _ (by decide)⟩
abbrev alphaS : Str := "abcdefghijklmnopqrstuvwxyz"
/-- the letter of a number -/
def ltr (i : Int) : Nat := 97 + (i % 26).toNat
theorem alpha_at : ∀ n : Nat, n < 26 → alphaS.cps[n]? = some (97 + n) := by decide +kernel
theorem alpha_ltr (i : Int) : alphaS.cps[(i % 26).toNat]? = some (ltr i) := alpha_at _ (by
  have h1 := Int.emod_nonneg i (show (26 : Int) ≠ 0 by decide)
  have h2 := Int.emod_lt_of_pos i (show (0 : Int) < 26 by decide)
  omega)
theorem alpha_len : alphaS.length = 26 := by decide +kernel
theorem alpha_mem : ∀ c : Nat, 97 ≤ c → c ≤ 122 → c ∈ alphaS.cps.toList := by
  intro c h1 h2
  have h := alpha_at (c - 97) (by omega)
  rw [show 97 + (c - 97) = c by omega] at h
  rw [← Array.getElem?_toList] at h
  exact List.mem_of_getElem? h
/-- a small letter -/
def Sm (c : Nat) : Prop := 97 ≤ c ∧ c ≤ 122
theorem ltr_sm (i : Int) : Sm (ltr i) := by
  have h1 := Int.emod_nonneg i (show (26 : Int) ≠ 0 by decide)
  have h2 := Int.emod_lt_of_pos i (show (0 : Int) < 26 by decide)
  unfold Sm ltr
  omega
/-- the letters of a word's body -/
def bodyL (d off : Int) (n : Nat) : List Nat := (List.range n).map fun (j : Nat) => ltr (mixed d (off + (0 + (j : Int))))
theorem bodyL_len (d off : Int) (n : Nat) : (bodyL d off n).length = n := by
  unfold bodyL
  rw [List.length_map, List.length_range]
theorem bodyL_sm (d off : Int) (n : Nat) : ∀ c ∈ bodyL d off n, Sm c := by
  intro c h
  obtain ⟨j, _, e⟩ := List.mem_map.mp h
  rw [← e]
  exact ltr_sm _
def insL (b : List Nat) (i : Nat) (c : Nat) : List Nat := b.take i ++ (c :: b.drop i)
theorem insL_len (b : List Nat) (i c : Nat) : (insL b i c).length = b.length + 1 := by
  unfold insL
  rw [List.length_append, List.length_cons, List.length_take, List.length_drop]
  omega
theorem insL_sm {b : List Nat} {i c : Nat} (hb : ∀ x ∈ b, Sm x) (hc : Sm c) : ∀ x ∈ insL b i c, Sm x := by
  intro x h
  rcases List.mem_append.mp h with h | h
  · exact hb x (List.mem_of_mem_take h)
  · rcases List.mem_cons.mp h with e | h
    · rw [e]
      exact hc
    · exact hb x (List.mem_of_mem_drop h)
theorem insL_inj {b : List Nat} {i c c' : Nat} (h : insL b i c = insL b i c') : c = c' := by
  unfold insL at h
  have h2 := List.append_cancel_left h
  exact (List.cons.inj h2).1
def nameN (d : Int) : Nat := (mixed d 1 % 12).toNat
def nameL (d k : Int) : List Nat := insL (bodyL d 3 (nameN d)) (mixed d 2 % (mixed d 1 % 12 + 1)).toNat (ltr (d + 5 * k))
def markN (d : Int) : Nat := (mixed d 21 % 8).toNat
def markL (d k : Int) : List Nat := insL (bodyL d 23 (markN d)) (mixed d 22 % (mixed d 21 % 8 + 1)).toNat (ltr (d / 3 + 7 * k))
theorem nameN_lt (d : Int) : nameN d < 12 := by
  unfold nameN
  have h1 := Int.emod_nonneg (mixed d 1) (show (12 : Int) ≠ 0 by decide)
  have h2 := Int.emod_lt_of_pos (mixed d 1) (show (0 : Int) < 12 by decide)
  omega
theorem markN_lt (d : Int) : markN d < 8 := by
  unfold markN
  have h1 := Int.emod_nonneg (mixed d 21) (show (8 : Int) ≠ 0 by decide)
  have h2 := Int.emod_lt_of_pos (mixed d 21) (show (0 : Int) < 8 by decide)
  omega
/-- a word of so many small letters at most -/
structure WordL (n : Nat) (l : List Nat) : Prop where
  pos : 1 ≤ l.length
  most : l.length ≤ n
  sm : ∀ c ∈ l, Sm c
theorem nameL_word (d k : Int) : WordL 12 (nameL d k) := by
  have h := nameN_lt d
  refine ⟨?_, ?_, insL_sm (bodyL_sm _ _ _) (ltr_sm _)⟩
  · unfold nameL
    rw [insL_len]
    omega
  · unfold nameL
    rw [insL_len, bodyL_len]
    omega
theorem markL_word (d k : Int) : WordL 8 (markL d k) := by
  have h := markN_lt d
  refine ⟨?_, ?_, insL_sm (bodyL_sm _ _ _) (ltr_sm _)⟩
  · unfold markL
    rw [insL_len]
    omega
  · unfold markL
    rw [insL_len, bodyL_len]
    omega
/-- the marks of the first five places differ -/
theorem markL_ne {d : Int} {i j : Int} (hi : 0 ≤ i ∧ i < 5) (hj : 0 ≤ j ∧ j < 5) (h : markL d i = markL d j) : i = j := by
  unfold markL at h
  have h2 := insL_inj h
  unfold ltr at h2
  omega
end Th
end M1
section D1
namespace Th
open PySem PySem.Spec PyProof.Rows L2
section
variable {P : Program} {w : World} {K : PySem.W.Frag} {mg : Str → Option Value} {base : Heap}
/-! ### _law_cell_at -/
theorem sc_cell : FnScope ["_law_script", "_law_k"] ["_law_script", "_law_k"] (defScope s_cell_at) := ⟨rfl, rfl, rfl, by decide +kernel, rfl, by decide +kernel, by decide +kernel⟩
def cellN (ns : List Int) (k : Nat) : Int := ns.getD k 0
def sp_cell (K : PySem.W.Frag) : Sp := fun vs H Q _ => ∃ (a : Addr) (ns : List Int) (k : Nat), vs = [.ref a, .int (k : Int)] ∧ SqL K H a (ns.map V.int) ∧ Q (.int (cellN ns k)) H
theorem ok_cell (T : Tx K mg) : C8.Cal P w K mg base 1 "_law_cell_at" (sp_cell K) [] := by
  obtain ⟨fd, F⟩ := T.d_law_cell_at
  refine cal_of F T.g_law_cell_at (F.bindsN (ps := ["_law_script", "_law_k"]) fun _ _ _ _ _ _ us hl => match us, hl with | [_, _], _ => rfl) .nil sc_cell (fun vs H Q E h => ?_) (fun cdv A outer s H vs Q E hr h => ?_)
  · obtain ⟨a, ns, k, rfl, _⟩ := h
    rfl
  · obtain ⟨a, ns, k, rfl, hS, q⟩ := h
    refine ⟨_, pss_cons (ps_if (pt_cmpR op_lt (pv 1) (pe_callB call_len_seq (by rfl) T.z_len PySem.boot_len (pa_cons (pv 0) pa_nil)) (nomark _)) (pss_one (ps_ret (pe_ix ix_list (pv 0) (pv 1) (fun _ _ => rfl)))) pss_nil) (pss_one (ps_ret pe_int)), ?_⟩
    refine ⟨_, rfl, _, rfl, a, _, rfl, .inl hS, _, _, rfl, rfl, _, rfl, ?_⟩
    refine ite2 (fun c => ?_) (fun c => ?_)
    · have c1 := of_decide_eq_true c
      rw [List.length_map] at c1
      have c2 : k < ns.length := by omega
      refine ⟨_, rfl, _, rfl, a, _, _, .int (cellN ns k), rfl, rfl, hS, atI_nat ?_, q⟩
      unfold cellN
      rw [List.getElem?_map, List.getD_eq_getElem?_getD, List.getElem?_eq_getElem c2]
      rfl
    · have c2 : ns.length ≤ k := by
        have c3 : ¬ ((k : Int) < ((ns.map V.int).length : Int)) := fun z => c (decide_eq_true z)
        rw [List.length_map] at c3
        omega
      have e : cellN ns k = 0 := by
        unfold cellN
        rw [List.getD_eq_getElem?_getD, List.getElem?_eq_none c2]
        rfl
      rw [e] at q
      exact q
/-! ### _law_mixed -/
theorem sc_mixed : FnScope ["_law_draw", "_law_k", "_law_number"] ["_law_draw", "_law_k"] (defScope s_mixed) := ⟨rfl, rfl, rfl, by decide +kernel, rfl, by decide +kernel, by decide +kernel⟩
def sp_mixed : Sp := fun vs H Q _ => ∃ d k : Int, vs = [.int d, .int k] ∧ Q (.int (mixed d k)) H
theorem ok_mixed (T : Tx K mg) : C8.Cal P w K mg base 1 "_law_mixed" sp_mixed [] := by
  obtain ⟨fd, F⟩ := T.d_law_mixed
  refine cal_of F T.g_law_mixed (F.bindsN (ps := ["_law_draw", "_law_k"]) fun _ _ _ _ _ _ us hl => match us, hl with | [_, _], _ => rfl) .nil sc_mixed (fun vs H Q E h => ?_) (fun cdv A outer s H vs Q E hr h => ?_)
  · obtain ⟨d, k, rfl, _⟩ := h
    rfl
  · obtain ⟨d, k, rfl, q⟩ := h
    refine ⟨_, pss_cons (ps_set (i := 2) sc_mixed.nd rfl (.inl rfl) (pe_op op_mod (pe_op op_mul (pe_op op_add (pe_op op_add (pe_op op_mod (pv 0) pe_int) (pe_op op_mul pe_int (pv 1))) pe_int) pe_int) pe_int))
      (pss_one (ps_ret (pe_op op_mod (pe_op op_mul (pv 2) (pe_op op_add (pe_op op_fdiv (pv 2) pe_int) pe_int)) pe_int))), ?_⟩
    have hm := mixN_range d k
    refine ⟨_, rfl, _, _, rfl, rfl, (by show (0 : Int) < 2147483629; decide), _, rfl, _, _, rfl, rfl, .inl ⟨by decide, by decide⟩, _, _, rfl, rfl, _, _, rfl, rfl, _, _, rfl, rfl, .inr ⟨by decide, by decide⟩, _, _, rfl, rfl, (by show (0 : Int) < 2147483629; decide), ?_⟩
    refine ⟨_, rfl, _, rfl, _, _, rfl, rfl, ⟨by decide, by decide⟩, _, _, rfl, rfl, _, _, rfl, rfl, .inl ⟨?_, ?_⟩, _, _, rfl, rfl, (by show (0 : Int) < 2147483629; decide), q⟩
    · show -(2 ^ 64) < mixN d k
      omega
    · show mixN d k < 2 ^ 64
      omega
/-! ### _law_name -/
abbrev N_name : List Str := ["_law_draw", "_law_k", "_law_some", "_law_length", "_law_body", "_law_at", "_law_j"]
theorem sc_name : FnScope N_name ["_law_draw", "_law_k"] (defScope s_name) := ⟨rfl, rfl, rfl, by decide +kernel, rfl, by decide +kernel, by decide +kernel⟩
def sp_name : Sp := fun vs H Q _ => ∃ d k : Int, vs = [.int d, .int k] ∧ ∀ H', Same H H' → Q (.str (SX.S (nameL d k))) H'
/-- the list of one-letter texts that the comprehension makes -/
def oneL (l : List Nat) : List V := (l.map fun c => SX.S [c]).map V.str
theorem bodyL_at {d off : Int} {n i : Nat} (h : i < n) : (bodyL d off n)[i]? = some (ltr (mixed d (off + (0 + (i : Int))))) := by
  unfold bodyL
  rw [List.getElem?_map, List.getElem?_range h]
  rfl
theorem oneL_snoc {l : List Nat} {i c : Nat} (h : l[i]? = some c) : oneL (l.take (i + 1)) = oneL (l.take i) ++ [.str ⟨#[c]⟩] := by
  unfold oneL
  rw [List.take_add_one, h, List.map_append, List.map_append]
  rfl
theorem joinL_nil : ∀ l : List Nat, TL.joinL [] (l.map fun c => [c]) = l
  | [] => rfl
  | [c] => rfl
  | c :: d :: r => by
    have ih := joinL_nil (d :: r)
    show [c] ++ [] ++ TL.joinL [] ((d :: r).map fun c => [c]) = c :: d :: r
    rw [ih]
    rfl
theorem join_one (l : List Nat) : Txt.join ("" : Str) (l.map fun c => SX.S [c]) = SX.S l := by
  have e := SX.join_S [] (l.map fun c => [c])
  rw [List.map_map, joinL_nil] at e
  exact e
theorem one_sum (l : List Nat) : ((l.map fun c => SX.S [c]).map (·.length)).sum = l.length := by
  induction l with
  | nil => rfl
  | cons c r ih =>
    rw [List.map_cons, List.map_cons, List.sum_cons, ih, List.length_cons]
    show 1 + r.length = r.length + 1
    omega
theorem cut_ins (b : List Nat) (i : Int) (c : Nat) (h : 0 ≤ i) : Txt.slice (SX.S b) none (some i) ++ (⟨#[c]⟩ : Str) ++ Txt.slice (SX.S b) (some i) none = SX.S (insL b i.toNat c) := by
  rw [SX.slice_to h, SX.slice_from h]
  show SX.S (b.take i.toNat) ++ SX.S [c] ++ SX.S (b.drop i.toNat) = _
  rw [SX.S_cat, SX.S_cat]
  unfold insL
  rw [List.append_assoc]
  rfl
theorem ok_name (T : Tx K mg) : C8.Cal P w K mg base 2 "_law_name" sp_name [] := by
  obtain ⟨fd, F⟩ := T.d_law_name
  have CM : C8.Cal P w K mg base 1 "_law_mixed" sp_mixed [] := ok_mixed T
  refine cal_of F T.g_law_name (F.bindsN (ps := ["_law_draw", "_law_k"]) fun _ _ _ _ _ _ us hl => match us, hl with | [_, _], _ => rfl) .nil sc_name (fun vs H Q E h => ?_) (fun cdv A outer s H vs Q E hr h => ?_)
  · obtain ⟨d, k, rfl, _⟩ := h
    rfl
  · obtain ⟨d, k, rfl, q⟩ := h
    refine ⟨_, pss_cons (ps_set (i := 2) sc_name.nd rfl (.inr rfl) pe_str)
      (pss_cons (ps_set (i := 3) sc_name.nd rfl (.inl rfl) (pe_op op_mod (C8.pe_c CM hr (by decide) rfl (pa_cons (pv 0) (pa_cons pe_int pa_nil))) pe_int))
      (pss_cons (ps_set (i := 4) sc_name.nd rfl (.inl rfl) (pe_join pe_str (pe_lc (own := [("_law_j", 6)]) (g := gName 6) (tt := tYes) rfl sc_name.nd (pi_range1 rfl T.z_range (pa_cons (pv 3) pa_nil)) (blkOk_by (N := N_name) (sc := defScope s_name) (by decide +kernel))
          (fun _ _ _ _ _ => pg_name (i := 6) sc_name.nd rfl (Or.inl rfl)) (fun _ _ _ _ _ => pts_nil)
          (fun _ _ _ _ _ => pe_item_str (pv 2) (pe_op op_mod (C8.pe_c CM hr (by decide) rfl (pa_cons (pv 0) (pa_cons (pe_op op_add pe_int (pv 6)) pa_nil))) pe_int) (fun _ _ => rfl)))))
      (pss_cons (ps_set (i := 5) sc_name.nd rfl (.inl rfl) (pe_op op_mod (C8.pe_c CM hr (by decide) rfl (pa_cons (pv 0) (pa_cons pe_int pa_nil))) (pe_op op_add (pv 3) pe_int)))
      (pss_one (ps_ret (pe_op op_add_str (pe_op op_add_str (pe_slice C8.sl_txt (pv 4) po_none (po_some (pv 5))) (pe_item_str (pv 2) (pe_op op_mod (pe_op op_add (pv 0) (pe_op op_mul pe_int (pv 1))) pe_int) (fun _ _ => rfl)))
        (pe_slice C8.sl_txt (pv 4) (po_some (pv 5)) po_none))))))), ?_⟩
    have hn := nameN_lt d
    have h0 := Int.emod_nonneg (mixed d 1) (show (12 : Int) ≠ 0 by decide)
    have h1 := Int.emod_lt_of_pos (mixed d 1) (show (0 : Int) < 12 by decide)
    have hb : (bodyL d 3 (nameN d)).length = nameN d := bodyL_len _ _ _
    -- length
    refine ⟨_, rfl, d, 1, rfl, _, _, rfl, rfl, (by show (0 : Int) < 12; decide), ?_⟩
    -- the body
    refine ⟨⟨_, rfl⟩, _, rfl, _, rfl, by omega, by omega, fun D hD => ?_⟩
    refine lc_range (lo := 0) (n := nameN d) (fun i H' => H' = upd H D (.lst (oneL ((bodyL d 3 (nameN d)).take i)))) rfl ?_ ?_
    · rintro i H' hi rfl
      refine ⟨rfl, _, rfl, _, rfl, _, rfl, _, _, rfl, rfl, d, 3 + (0 + (i : Int)), rfl, _, _, rfl, rfl, (by show (0 : Int) < 26; decide), alphaS, _, ltr (mixed d (3 + (0 + (i : Int)))), rfl, rfl, ?_, ?_, ?_, alpha_ltr _, ?_⟩
      · exact Int.emod_nonneg _ (by decide)
      · have := Int.emod_lt_of_pos (mixed d (3 + (0 + (i : Int)))) (show (0 : Int) < 26 by decide)
        omega
      · have := Int.emod_lt_of_pos (mixed d (3 + (0 + (i : Int)))) (show (0 : Int) < 26 by decide)
        rw [alpha_len]
        exact this
      · refine ⟨_, upd_same, ?_, ?_⟩
        · unfold oneL
          rw [List.length_map, List.length_map, List.length_take]
          exact small1000 (by omega)
        · show upd (upd H D _) D _ = _
          rw [upd_upd, oneL_snoc (bodyL_at hi)]
    · rintro H' rfl
      rw [List.take_of_length_le (Nat.le_of_eq hb)]
      refine ⟨_, D, (bodyL d 3 (nameN d)).map fun c => SX.S [c], rfl, rfl, .inl (.inl (.inl upd_same)), ?_, ?_⟩
      · rw [one_sum, hb]
        show nameN d + _ * 0 ≤ 16777216
        omega
      · rw [join_one]
        have hp : (0 : Int) < mixed d 1 % 12 + 1 := by omega
        have ha0 := Int.emod_nonneg (mixed d 2) (show mixed d 1 % 12 + 1 ≠ 0 by omega)
        refine ⟨_, rfl, d, 2, rfl, _, rfl, _, _, rfl, rfl, _, _, rfl, rfl, hp, ?_⟩
        have hsz : (SX.S (bodyL d 3 (nameN d))).length ≤ sizeLine := by
          rw [SX.S_len, hb]
          exact Nat.le_of_lt (small1000 (by omega))
        have hs1 : (Txt.slice (SX.S (bodyL d 3 (nameN d))) none (some (mixed d 2 % (mixed d 1 % 12 + 1)))).length ≤ 12 := by
          rw [SX.slice_to ha0, SX.S_len, List.length_take]
          omega
        have hs2 : (Txt.slice (SX.S (bodyL d 3 (nameN d))) (some (mixed d 2 % (mixed d 1 % 12 + 1))) none).length ≤ 12 := by
          rw [SX.slice_from ha0, SX.S_len, List.length_drop]
          omega
        refine ⟨_, rfl, _, rfl, _, rfl, _, rfl, hsz, _, rfl, _, rfl, _, rfl, _, _, rfl, rfl, .inl ⟨by decide, by decide⟩, _, _, rfl, rfl, _, _, rfl, rfl, (by show (0 : Int) < 26; decide), alphaS, _, ltr (d + 5 * k), rfl, rfl, ?_, ?_, ?_, alpha_ltr _, ?_⟩
        · exact Int.emod_nonneg _ (by decide)
        · have := Int.emod_lt_of_pos (d + 5 * k) (show (0 : Int) < 26 by decide)
          omega
        · rw [alpha_len]
          exact Int.emod_lt_of_pos _ (by decide)
        · refine ⟨_, _, rfl, rfl, ?_, _, rfl, _, rfl, _, rfl, _, rfl, hsz, _, _, rfl, rfl, ?_, ?_⟩
          · refine Nat.le_trans (Nat.add_le_add_right hs1 _) ?_
            show 12 + 1 ≤ sizeLine
            decide
          · refine Nat.le_trans (Nat.add_le_add (b := 13) ?_ hs2) (show 13 + 12 ≤ sizeLine by decide)
            show (Txt.slice _ _ _ ++ (⟨#[ltr (d + 5 * k)]⟩ : Str)).length ≤ 13
            rw [SX.slice_to ha0]
            show (SX.S _ ++ SX.S [ltr (d + 5 * k)]).length ≤ 13
            rw [SX.S_cat, SX.S_len, List.length_append, List.length_take]
            show min _ _ + 1 ≤ 13
            omega
          · show Q (.str (Txt.slice _ _ _ ++ (⟨#[ltr (d + 5 * k)]⟩ : Str) ++ Txt.slice _ _ _)) _
            rw [cut_ins _ _ _ ha0]
            exact q _ (same_upd hD)
/-! ### _law_mark -/
theorem sc_mark : FnScope N_name ["_law_draw", "_law_k"] (defScope s_mark) := ⟨rfl, rfl, rfl, by decide +kernel, rfl, by decide +kernel, by decide +kernel⟩
def sp_mark : Sp := fun vs H Q _ => ∃ d k : Int, vs = [.int d, .int k] ∧ ∀ H', Same H H' → Q (.str (SX.S (markL d k))) H'
theorem ok_mark (T : Tx K mg) : C8.Cal P w K mg base 2 "_law_mark" sp_mark [] := by
  obtain ⟨fd, F⟩ := T.d_law_mark
  have CM : C8.Cal P w K mg base 1 "_law_mixed" sp_mixed [] := ok_mixed T
  refine cal_of F T.g_law_mark (F.bindsN (ps := ["_law_draw", "_law_k"]) fun _ _ _ _ _ _ us hl => match us, hl with | [_, _], _ => rfl) .nil sc_mark (fun vs H Q E h => ?_) (fun cdv A outer s H vs Q E hr h => ?_)
  · obtain ⟨d, k, rfl, _⟩ := h
    rfl
  · obtain ⟨d, k, rfl, q⟩ := h
    refine ⟨_, pss_cons (ps_set (i := 2) sc_mark.nd rfl (.inr rfl) pe_str)
      (pss_cons (ps_set (i := 3) sc_mark.nd rfl (.inl rfl) (pe_op op_mod (C8.pe_c CM hr (by decide) rfl (pa_cons (pv 0) (pa_cons pe_int pa_nil))) pe_int))
      (pss_cons (ps_set (i := 4) sc_mark.nd rfl (.inl rfl) (pe_join pe_str (pe_lc (own := [("_law_j", 6)]) (g := gName 6) (tt := tYes) rfl sc_mark.nd (pi_range1 rfl T.z_range (pa_cons (pv 3) pa_nil)) (blkOk_by (N := N_name) (sc := defScope s_mark) (by decide +kernel))
          (fun _ _ _ _ _ => pg_name (i := 6) sc_mark.nd rfl (Or.inl rfl)) (fun _ _ _ _ _ => pts_nil)
          (fun _ _ _ _ _ => pe_item_str (pv 2) (pe_op op_mod (C8.pe_c CM hr (by decide) rfl (pa_cons (pv 0) (pa_cons (pe_op op_add pe_int (pv 6)) pa_nil))) pe_int) (fun _ _ => rfl)))))
      (pss_cons (ps_set (i := 5) sc_mark.nd rfl (.inl rfl) (pe_op op_mod (C8.pe_c CM hr (by decide) rfl (pa_cons (pv 0) (pa_cons pe_int pa_nil))) (pe_op op_add (pv 3) pe_int)))
      (pss_one (ps_ret (pe_op op_add_str (pe_op op_add_str (pe_slice C8.sl_txt (pv 4) po_none (po_some (pv 5))) (pe_item_str (pv 2) (pe_op op_mod (pe_op op_add (pe_op op_fdiv (pv 0) pe_int) (pe_op op_mul pe_int (pv 1))) pe_int) (fun _ _ => rfl)))
        (pe_slice C8.sl_txt (pv 4) (po_some (pv 5)) po_none))))))), ?_⟩
    have hn := markN_lt d
    have h0 := Int.emod_nonneg (mixed d 21) (show (8 : Int) ≠ 0 by decide)
    have h1 := Int.emod_lt_of_pos (mixed d 21) (show (0 : Int) < 8 by decide)
    have hb : (bodyL d 23 (markN d)).length = markN d := bodyL_len _ _ _
    -- length
    refine ⟨_, rfl, d, 21, rfl, _, _, rfl, rfl, (by show (0 : Int) < 8; decide), ?_⟩
    -- the body
    refine ⟨⟨_, rfl⟩, _, rfl, _, rfl, by omega, by omega, fun D hD => ?_⟩
    refine lc_range (lo := 0) (n := markN d) (fun i H' => H' = upd H D (.lst (oneL ((bodyL d 23 (markN d)).take i)))) rfl ?_ ?_
    · rintro i H' hi rfl
      refine ⟨rfl, _, rfl, _, rfl, _, rfl, _, _, rfl, rfl, d, 23 + (0 + (i : Int)), rfl, _, _, rfl, rfl, (by show (0 : Int) < 26; decide), alphaS, _, ltr (mixed d (23 + (0 + (i : Int)))), rfl, rfl, ?_, ?_, ?_, alpha_ltr _, ?_⟩
      · exact Int.emod_nonneg _ (by decide)
      · have := Int.emod_lt_of_pos (mixed d (23 + (0 + (i : Int)))) (show (0 : Int) < 26 by decide)
        omega
      · have := Int.emod_lt_of_pos (mixed d (23 + (0 + (i : Int)))) (show (0 : Int) < 26 by decide)
        rw [alpha_len]
        exact this
      · refine ⟨_, upd_same, ?_, ?_⟩
        · unfold oneL
          rw [List.length_map, List.length_map, List.length_take]
          exact small1000 (by omega)
        · show upd (upd H D _) D _ = _
          rw [upd_upd, oneL_snoc (bodyL_at hi)]
    · rintro H' rfl
      rw [List.take_of_length_le (Nat.le_of_eq hb)]
      refine ⟨_, D, (bodyL d 23 (markN d)).map fun c => SX.S [c], rfl, rfl, .inl (.inl (.inl upd_same)), ?_, ?_⟩
      · rw [one_sum, hb]
        show markN d + _ * 0 ≤ 16777216
        omega
      · rw [join_one]
        have hp : (0 : Int) < mixed d 21 % 8 + 1 := by omega
        have ha0 := Int.emod_nonneg (mixed d 22) (show mixed d 21 % 8 + 1 ≠ 0 by omega)
        refine ⟨_, rfl, d, 22, rfl, _, rfl, _, _, rfl, rfl, _, _, rfl, rfl, hp, ?_⟩
        have hsz : (SX.S (bodyL d 23 (markN d))).length ≤ sizeLine := by
          rw [SX.S_len, hb]
          exact Nat.le_of_lt (small1000 (by omega))
        have hs1 : (Txt.slice (SX.S (bodyL d 23 (markN d))) none (some (mixed d 22 % (mixed d 21 % 8 + 1)))).length ≤ 12 := by
          rw [SX.slice_to ha0, SX.S_len, List.length_take]
          omega
        have hs2 : (Txt.slice (SX.S (bodyL d 23 (markN d))) (some (mixed d 22 % (mixed d 21 % 8 + 1))) none).length ≤ 12 := by
          rw [SX.slice_from ha0, SX.S_len, List.length_drop]
          omega
        refine ⟨_, rfl, _, rfl, _, rfl, _, rfl, hsz, _, rfl, _, rfl, _, _, rfl, rfl, ⟨by decide, by decide⟩, _, rfl, _, _, rfl, rfl, .inl ⟨by decide, by decide⟩, _, _, rfl, rfl, _, _, rfl, rfl, (by show (0 : Int) < 26; decide), alphaS, _, ltr (d / 3 + 7 * k), rfl, rfl, ?_, ?_, ?_, alpha_ltr _, ?_⟩
        · exact Int.emod_nonneg _ (by decide)
        · have := Int.emod_lt_of_pos (d / 3 + 7 * k) (show (0 : Int) < 26 by decide)
          omega
        · rw [alpha_len]
          exact Int.emod_lt_of_pos _ (by decide)
        · refine ⟨_, _, rfl, rfl, ?_, _, rfl, _, rfl, _, rfl, _, rfl, hsz, _, _, rfl, rfl, ?_, ?_⟩
          · refine Nat.le_trans (Nat.add_le_add_right hs1 _) ?_
            show 12 + 1 ≤ sizeLine
            decide
          · refine Nat.le_trans (Nat.add_le_add (b := 13) ?_ hs2) (show 13 + 12 ≤ sizeLine by decide)
            show (Txt.slice _ _ _ ++ (⟨#[ltr (d / 3 + 7 * k)]⟩ : Str)).length ≤ 13
            rw [SX.slice_to ha0]
            show (SX.S _ ++ SX.S [ltr (d / 3 + 7 * k)]).length ≤ 13
            rw [SX.S_cat, SX.S_len, List.length_append, List.length_take]
            show min _ _ + 1 ≤ 13
            omega
          · show Q (.str (Txt.slice _ _ _ ++ (⟨#[ltr (d / 3 + 7 * k)]⟩ : Str) ++ Txt.slice _ _ _)) _
            rw [cut_ins _ _ _ ha0]
            exact q _ (same_upd hD)
end
end Th
end D1
section D2
namespace Th
open PySem PySem.Spec PyProof.Rows L2
/-! ### rules: what stands in the heap -/
def fRule (l : Addr) : List (Str × V) := [("row", .ref l), ("end", .non)]
/-- a Rule of one step (0, wd), nothing gone -/
structure RuleAt (K : PySem.W.Frag) (H : Hp) (r : Addr) (wd : Int) : Prop where
  ex : ∃ dx l t : Addr, H r = some (.ins (cRule K) dx (fRule l)) ∧ H l = some (.lst [.ref t]) ∧ H t = some (.tup [.int 0, .int wd])
  lo : 1 ≤ wd
  hi : wd ≤ 9
def Ext (H H' : Hp) : Prop := ∀ b o, H b = some o → (∀ ps, o ≠ .tbl ps) → H' b = some o
theorem Ext.refl (H : Hp) : Ext H H := fun _ _ h _ => h
theorem Ext.trans {H H1 H2 : Hp} (a : Ext H H1) (b : Ext H1 H2) : Ext H H2 := fun c o h n => b c o (a c o h n) n
theorem Same.ext {H H' : Hp} (s : Same H H') : Ext H H' := fun b o h _ => s b o h
theorem Ext.ins {H H' : Hp} (e : Ext H H') {a C dx : Addr} {fs : List (Str × V)} (h : H a = some (.ins C dx fs)) : H' a = some (.ins C dx fs) := e _ _ h (fun _ z => by cases z)
theorem Ext.lst {H H' : Hp} (e : Ext H H') {a : Addr} {xs : List V} (h : H a = some (.lst xs)) : H' a = some (.lst xs) := e _ _ h (fun _ z => by cases z)
theorem Ext.tup {H H' : Hp} (e : Ext H H') {a : Addr} {xs : List V} (h : H a = some (.tup xs)) : H' a = some (.tup xs) := e _ _ h (fun _ z => by cases z)
theorem Ext.dic {H H' : Hp} (e : Ext H H') {a : Addr} {xs : List (Key × V)} (h : H a = some (.dK xs)) : H' a = some (.dK xs) := e _ _ h (fun _ z => by cases z)
theorem Ext.seq {K : PySem.W.Frag} {H H' : Hp} {a : Addr} {xs : List V} (e : Ext H H') (h : SqL K H a xs) : SqL K H' a xs := by
  rcases h with (h | ⟨o, h⟩) | h
  · exact .inl (.inl (e.lst h))
  · exact .inl (.inr ⟨o, e _ _ h (fun _ z => by cases z)⟩)
  · exact .inr h
theorem RuleAt.ext {K : PySem.W.Frag} {H H' : Hp} {r : Addr} {wd : Int} (R : RuleAt K H r wd) (e : Ext H H') : RuleAt K H' r wd := by
  obtain ⟨dx, l, t, h1, h2, h3⟩ := R.ex
  exact ⟨⟨dx, l, t, e.ins h1, e.lst h2, e.tup h3⟩, R.lo, R.hi⟩
/-- the cut of a step -/
def cutN (wd day : Int) : Int := (day - 0) / wd * wd
section
variable {P : Program} {w : World} {K : PySem.W.Frag} {mg : Str → Option Value} {base : Heap}
/-! ### Rule.steps, Rule.gone -/
theorem sc_steps : FnScope ["self"] ["self"] (defScope s_steps) := ⟨rfl, rfl, rfl, by decide +kernel, rfl, by decide +kernel, by decide +kernel⟩
def sp_steps (K : PySem.W.Frag) : Sp := fun vs H Q _ => ∃ (r : Addr) (wd : Int), vs = [.ref r] ∧ RuleAt K H r wd ∧ ∀ (p t : Addr), H t = some (.tup [.int 0, .int wd]) → H p = none → Q (.ref p) (upd H p (.lst [.ref t]))
theorem ok_steps (T : Tx K mg) : C8.Met P w K mg base 1 (cRule K) "steps" (sp_steps K) [] := by
  obtain ⟨fd, F⟩ := T.d_Rule_steps
  refine met_of T.c_Rule T.m_Rule_steps F (F.bindsN (ps := ["self"]) fun _ _ _ _ _ _ us hl => match us, hl with | [_], _ => rfl) .nil sc_steps (fun vs H Q E h => ?_) (fun cdv A outer s H vs Q E hr h => ?_)
  · obtain ⟨r, wd, rfl, _⟩ := h
    rfl
  · obtain ⟨r, wd, rfl, R, q⟩ := h
    obtain ⟨dx, l, t, h1, h2, h3⟩ := R.ex
    refine ⟨_, pss_one (ps_ret (pe_callTy call_list_of (by rfl) T.z_list (by decide +kernel) (pa_cons (pe_fld (pv 0) rfl) pa_nil))), ?_⟩
    exact ⟨_, rfl, r, _, dx, _, _, rfl, h1, T.c_Rule, T.n_Rule_row, rfl, l, _, rfl, .inl (.inl (.inl h2)), fun p hp => q p t h3 hp⟩
theorem sc_gone : FnScope ["self"] ["self"] (defScope s_gone) := ⟨rfl, rfl, rfl, by decide +kernel, rfl, by decide +kernel, by decide +kernel⟩
def sp_gone (K : PySem.W.Frag) : Sp := fun vs H Q _ => ∃ (r : Addr) (wd : Int), vs = [.ref r] ∧ RuleAt K H r wd ∧ Q .non H
theorem ok_gone (T : Tx K mg) : C8.Met P w K mg base 1 (cRule K) "gone" (sp_gone K) [] := by
  obtain ⟨fd, F⟩ := T.d_Rule_gone
  refine met_of T.c_Rule T.m_Rule_gone F (F.bindsN (ps := ["self"]) fun _ _ _ _ _ _ us hl => match us, hl with | [_], _ => rfl) .nil sc_gone (fun vs H Q E h => ?_) (fun cdv A outer s H vs Q E hr h => ?_)
  · obtain ⟨r, wd, rfl, _⟩ := h
    rfl
  · obtain ⟨r, wd, rfl, R, q⟩ := h
    obtain ⟨dx, l, t, h1, h2, h3⟩ := R.ex
    refine ⟨_, pss_one (ps_ret (pe_fld (pv 0) rfl)), ?_⟩
    exact ⟨_, rfl, r, _, dx, _, _, rfl, h1, T.c_Rule, T.n_Rule_end, rfl, q⟩
/-! ### cut_at -/
theorem sc_cut : FnScope ["age", "width", "day"] ["age", "width", "day"] (defScope s_cut_at) := ⟨rfl, rfl, rfl, by decide +kernel, rfl, by decide +kernel, by decide +kernel⟩
def sp_cut : Sp := fun vs H Q _ => ∃ wd day : Int, vs = [.int 0, .int wd, .int day] ∧ 1 ≤ wd ∧ wd ≤ 9 ∧ Q (.int (cutN wd day)) H
theorem ok_cut (T : Tx K mg) : C8.Cal P w K mg base 1 "cut_at" sp_cut [] := by
  obtain ⟨fd, F⟩ := T.d_cut_at
  refine cal_of F T.g_cut_at (F.bindsN (ps := ["age", "width", "day"]) fun _ _ _ _ _ _ us hl => match us, hl with | [_, _, _], _ => rfl) .nil sc_cut (fun vs H Q E h => ?_) (fun cdv A outer s H vs Q E hr h => ?_)
  · obtain ⟨wd, day, rfl, _⟩ := h
    rfl
  · obtain ⟨wd, day, rfl, h1, h2, q⟩ := h
    refine ⟨_, pss_one (ps_ret (pe_op op_mul (pe_op op_fdiv (pe_op op_sub (pv 2) (pv 0)) (pv 1)) (pv 1))), ?_⟩
    exact ⟨_, rfl, _, rfl, _, _, rfl, rfl, _, rfl, _, _, rfl, rfl, ⟨by omega, by omega⟩, _, rfl, _, _, rfl, rfl, .inr ⟨by omega, by omega⟩, q⟩
/-! ### edges_at -/
abbrev N_edges : List Str := ["rule", "day", "found", "age", "width"]
theorem sc_edges : FnScope N_edges ["rule", "day"] (defScope s_edges_at) := ⟨rfl, rfl, rfl, by decide +kernel, rfl, by decide +kernel, by decide +kernel⟩
def sp_edges (K : PySem.W.Frag) : Sp := fun vs H Q _ => ∃ (r : Addr) (wd day : Int), vs = [.ref r, .int day] ∧ RuleAt K H r wd ∧ ∀ (H' : Hp) (p : Addr), Same H H' → H p = none → H' p = some (.lst [.int (cutN wd day), .non]) → Q (.ref p) H'
theorem ok_edges (T : Tx K mg) : C8.Cal P w K mg base 2 "edges_at" (sp_edges K) [] := by
  obtain ⟨fd, F⟩ := T.d_edges_at
  have CS : C8.Met P w K mg base 1 (cRule K) "steps" (sp_steps K) [] := ok_steps T
  have CG : C8.Met P w K mg base 1 (cRule K) "gone" (sp_gone K) [] := ok_gone T
  have CC : C8.Cal P w K mg base 1 "cut_at" sp_cut [] := ok_cut T
  refine cal_of F T.g_edges_at (F.bindsN (ps := ["rule", "day"]) fun _ _ _ _ _ _ us hl => match us, hl with | [_, _], _ => rfl) .nil sc_edges (fun vs H Q E h => ?_) (fun cdv A outer s H vs Q E hr h => ?_)
  · obtain ⟨r, wd, day, rfl, _⟩ := h
    rfl
  · obtain ⟨r, wd, day, rfl, R, q⟩ := h
    obtain ⟨dx, l, t, h1, h2, h3⟩ := R.ex
    refine ⟨_, pss_cons (ps_setLc (i := 2) (own := [("age", 3), ("width", 4)]) (g := gTup K 2 (gCons (gName 3) (gCons (gName 4) gNil))) (tt := tYes) rfl sc_edges.nd rfl rfl (sw_true rfl rfl rfl (by decide +kernel))
        (pi_list (C8.pe_mt0 CS hr (by decide) (pv 0))) (blkOk_by (N := N_edges) (sc := defScope s_edges_at) (by decide +kernel))
        (fun _ _ _ _ _ => pg_tup rfl (pgs_cons (pg_name (i := 3) sc_edges.nd rfl (Or.inl rfl)) (pgs_cons (pg_name (i := 4) sc_edges.nd rfl (Or.inl rfl)) pgs_nil))) (fun _ _ _ _ _ => pts_nil)
        (fun _ _ _ _ _ => C8.pe_c CC hr (by decide) rfl (pa_cons (pv 3) (pa_cons (pv 4) (pa_cons (pv 1) pa_nil)))))
      (pss_cons (ps_if (pt_cmp (pc_isN (C8.pe_mt0 CG hr (by decide) (pv 0)))) (pss_one (ps_ret (pe_op op_cat (pv 2) (pe_lst (pa_cons pe_non pa_nil))))) pss_nil)
      (pss_one ps_never)), ?_⟩
    refine ⟨_, rfl, r, dx, _, rfl, h1, rfl, r, wd, rfl, R, fun c t' h3' hc => ?_⟩
    have s1 : Same H (upd H c (.lst [.ref t'])) := same_upd hc
    refine ⟨c, rfl, ⟨_, .inl (.inl upd_same)⟩, fun D hD => ?_⟩
    have s2 : Same (upd H c (.lst [.ref t'])) (upd (upd H c (.lst [.ref t'])) D (.lst [])) := same_upd hD
    have ncD : c ≠ D := ne_of_none upd_same hD
    refine lc_list (K := K) (a := c) (xs := [.ref t']) (fun i H' => H' = upd (upd H c (.lst [.ref t'])) D (.lst ([V.int (cutN wd day)].take i))) rfl (fun i H' _ e => ?_) ?_ ?_
    · subst e
      exact .inl (.inl (by rw [upd_ne ncD, upd_same]))
    · rintro i x H' hi rfl
      have hi0 : i = 0 := by
        have := (List.getElem?_eq_some_iff.mp hi).1
        rw [List.length_singleton] at this
        omega
      subst hi0
      have ex : V.ref t' = x := Option.some.inj hi
      subst ex
      have h3D : (upd (upd H c (.lst [.ref t'])) D (.lst ([V.int (cutN wd day)].take 0))) t' = some (.tup [.int 0, .int wd]) := by
        rw [upd_ne (ne_of_none (s1 _ _ h3') hD)]
        exact s1 _ _ h3'
      refine ⟨t', _, rfl, .inl (.inl h3D), rfl, _, _, rfl, _, _, rfl, rfl, rfl, ?_⟩
      refine ⟨_, rfl, _, rfl, _, rfl, wd, day, rfl, R.lo, R.hi, _, upd_same, (by show 0 < sizeLine; decide), ?_⟩
      rw [upd_upd]
      rfl
    · rintro H' rfl
      have s3 : Same H (upd (upd H c (.lst [.ref t'])) D (.lst ([V.int (cutN wd day)].take 1))) := s1.trans (same_upd hD)
      refine ⟨_, rfl, r, dx, _, rfl, s3 _ _ h1, rfl, r, wd, rfl, R.ext (Same.ext s3), true, rfl, ?_⟩
      refine iteT ?_
      refine ⟨_, rfl, (by decide), fun e he => ?_⟩
      have hDe : D ≠ e := ne_of_none upd_same he
      refine ⟨D, e, _, _, rfl, rfl, (by rw [upd_ne hDe, upd_same]), upd_same, (by show 1 + 1 ≤ sizeLine; decide), fun p hp => ?_⟩
      have s4 := s3.trans ((same_upd (o := .lst [V.non]) he).trans (same_upd (o := .lst ([V.int (cutN wd day)].take 1 ++ [V.non])) hp))
      exact q _ p s4 (s3.free ((same_upd he).free hp)) upd_same
end
end Th
end D2
section D3
namespace Th
open PySem PySem.Spec PyProof.Rows L2
/-- a new object's address is written again: what stood ahead of it stands -/
theorem same_write {H H' : Hp} {p : Addr} {o : HO} (s : Same H H') (hp : H p = none) : Same H (upd H' p o) := fun b x e => by
  rw [upd_ne (ne_of_none e hp)]
  exact s b x e
def fRoll (r : Addr) (day : Int) (lim wh he : Addr) : List (Str × V) := [("ruling", .ref r), ("today", .int day), ("limits", .ref lim), ("whole", .ref wh), ("heaped", .ref he)]
def fBook (r : Addr) (day : Int) (lim dR dS : Addr) : List (Str × V) := [("ruling", .ref r), ("today", .int day), ("limits", .ref lim), ("rolls", .ref dR), ("signs", .ref dS)]
theorem fRoll_lift (r : Addr) (day : Int) (lim wh he l2 : Addr) : putF "limits" (.ref l2) (fRoll r day lim wh he) = fRoll r day l2 wh he := by rfl
section
variable {P : Program} {w : World} {K : PySem.W.Frag} {mg : Str → Option Value} {base : Heap}
/-! ### greater, of edges that are alike -/
abbrev N_gr : List Str := ["one", "other", "found", "here", "there"]
theorem sc_gr : FnScope N_gr ["one", "other"] (defScope s_greater) := ⟨rfl, rfl, rfl, by decide +kernel, rfl, by decide +kernel, by decide +kernel⟩
def sp_gr (K : PySem.W.Frag) : Sp := fun vs H Q _ => ∃ (a b : Addr) (c : Int), vs = [.ref a, .ref b] ∧ SqL K H a [.int c, .non] ∧ SqL K H b [.int c, .non] ∧ ∀ (H' : Hp) (p : Addr), Same H H' → H p = none → H' p = some (.lst [.int c, .non]) → Q (.ref p) H'
theorem ok_gr (T : Tx K mg) : C8.Cal P w K mg base 1 "greater" (sp_gr K) [] := by
  obtain ⟨fd, F⟩ := T.d_greater
  refine cal_of F T.g_greater (F.bindsN (ps := ["one", "other"]) fun _ _ _ _ _ _ us hl => match us, hl with | [_, _], _ => rfl) .nil sc_gr (fun vs H Q E h => ?_) (fun cdv A outer s H vs Q E hr h => ?_)
  · obtain ⟨a, b, c, rfl, _⟩ := h
    rfl
  · obtain ⟨a, b, c, rfl, ha, hb, q⟩ := h
    refine ⟨_, pss_cons (ps_if (pt_cmpR op_ne (pe_callB call_len_seq (by rfl) T.z_len PySem.boot_len (pa_cons (pv 0) pa_nil)) (pe_callB call_len_seq (by rfl) T.z_len PySem.boot_len (pa_cons (pv 1) pa_nil)) (nomark _)) (pss_one ps_never) pss_nil)
      (pss_cons (ps_set (i := 2) sc_gr.nd rfl (.inl rfl) (pe_lst pa_nil))
      (pss_cons (ps_for PassesOwn.never rfl (pi_zip (by rfl) T.z_zip (pa_cons (pv 0) (pa_cons (pv 1) pa_nil))) (pg_tup rfl (pgs_cons (pg_name (i := 3) sc_gr.nd rfl (.inl rfl)) (pgs_cons (pg_name (i := 4) sc_gr.nd rfl (.inl rfl)) pgs_nil)))
        (pss_one (ps_if (PW.pt (pw_or (pt_cmp (pc_isN (pv 3))) (pw_or1 (PW.pt (pw_and (pt_cmp (pc_notN (pv 4))) (pw_and1 (pt_cmpR op_gt (pv 4) (pv 3) (nomark _))))))))
          (pss_one (ps_expr (pe_bm PySem.F.plainAttrs_list PySem.F.slot_list_append PySem.F.type_list_append mt_append (pv 2) (pa_cons (pv 4) pa_nil))))
          (pss_one (ps_expr (pe_bm PySem.F.plainAttrs_list PySem.F.slot_list_append PySem.F.type_list_append mt_append (pv 2) (pa_cons (pv 3) pa_nil)))))))
      (pss_one (ps_ret (pv 2))))), ?_⟩
    refine ⟨_, rfl, a, _, rfl, .inl ha, _, rfl, b, _, rfl, .inl hb, rfl, _, rfl, ?_⟩
    refine iteNS rfl ?_
    refine ⟨Nat.zero_le _, fun f hf => ?_⟩
    have s1 : Same H (upd H f (.lst [])) := same_upd hf
    refine ⟨_, rfl, _, rfl, a, b, _, _, rfl, s1.seq ha, s1.seq hb, ?_⟩
    refine RZ.for_zipL (K := K) (xs := [.int c, .non]) (ys := [.int c, .non]) rfl (fun i σ H' => ∃ y3 y4, σ = [some (.ref a), some (.ref b), some (.ref f), y3, y4] ∧ Same H H' ∧ H' f = some (.lst ([V.int c, .non].take i))) ⟨none, none, rfl, s1, upd_same⟩ (fun i σ H' ⟨_, _, _, s, _⟩ => ⟨s.seq ha, s.seq hb⟩) ?_ ?_
    · rintro i x y t σ H' hx hy ⟨y3, y4, rfl, s, hfl⟩ ht
      have hf' : (upd H' t (.tup [x, y])) f = some (.lst ([V.int c, .non].take i)) := by
        rw [upd_ne (ne_of_none hfl ht)]
        exact hfl
      have sT : Same H (upd H' t (.tup [x, y])) := s.trans (same_upd ht)
      have hxy : x = y := Option.some.inj (hx.symm.trans hy)
      subst hxy
      refine ⟨t, _, rfl, .inl (.inl upd_same), rfl, _, _, rfl, _, _, rfl, rfl, ?_⟩
      have hi : i = 0 ∨ i = 1 := by
        have h := (List.getElem?_eq_some_iff.mp hx).1
        have h2 : i < 2 := h
        omega
      rcases hi with e | e
      · subst e
        have ex : V.int c = x := Option.some.inj hx
        subst ex
        refine ⟨_, rfl, false, rfl, iteF ?_⟩
        refine ⟨_, rfl, true, rfl, iteT ?_⟩
        refine ⟨_, rfl, _, rfl, c, c, rfl, rfl, false, (by show V.bl (decide (c < c)) = _; rw [decide_eq_false (Int.lt_irrefl c)]), iteF ?_⟩
        refine ⟨_, rfl, .inl ⟨rfl, _, .inl (.inl hf')⟩, _, rfl, f, _, _, rfl, rfl, hf', (by show 0 < sizeLine; decide), _, _, rfl, same_write sT hf, ?_⟩
        rw [upd_same]
        rfl
      · subst e
        have ex : V.non = x := Option.some.inj hx
        subst ex
        refine ⟨_, rfl, true, rfl, iteT ?_⟩
        refine iteT ?_
        refine ⟨_, rfl, .inl ⟨rfl, _, .inl (.inl hf')⟩, _, rfl, f, _, _, rfl, rfl, hf', (by show 1 < sizeLine; decide), _, _, rfl, same_write sT hf, ?_⟩
        rw [upd_same]
        rfl
    · rintro σ H' ⟨y3, y4, rfl, s, hfl⟩
      exact ⟨_, rfl, q H' f s hf hfl⟩
/-! ### Roll -/
theorem sc_rollI : FnScope ["self", "rule", "day"] ["self", "rule", "day"] (defScope s_RollInit) := ⟨rfl, rfl, rfl, by decide +kernel, rfl, by decide +kernel, by decide +kernel⟩
def sp_rollI (K : PySem.W.Frag) : Sp := fun vs H Q _ => ∃ (x dx r : Addr) (wd day : Int), vs = [.ref x, .ref r, .int day] ∧ H x = some (.ins (cRoll K) dx []) ∧ RuleAt K H r wd ∧
  ∀ (H' : Hp) (lim wh he : Addr), (∀ b o, b ≠ x → H b = some o → H' b = some o) → H' x = some (.ins (cRoll K) dx (fRoll r day lim wh he)) → H lim = none → H' lim = some (.lst [.int (cutN wd day), .non]) → Q .non H'
theorem ok_rollI (T : Tx K mg) : C8.Mak P w K mg base 3 "Roll" (cRoll K) (sp_rollI K) [] := by
  obtain ⟨fd, F⟩ := T.d_Roll_init
  have CE : C8.Cal P w K mg base 2 "edges_at" (sp_edges K) [] := ok_edges T
  refine mak_of T.k_Roll T.g_Roll F (F.bindsN (ps := ["self", "rule", "day"]) fun _ _ _ _ _ _ us hl => match us, hl with | [_, _, _], _ => rfl) .nil sc_rollI (fun vs H Q E h => ?_) (fun cdv A outer s H vs Q E hr h => ?_)
  · obtain ⟨x, dx, r, wd, day, rfl, _⟩ := h
    rfl
  · obtain ⟨x, dx, r, wd, day, rfl, hx, R, q⟩ := h
    obtain ⟨dr, l, t, h1, h2, h3⟩ := R.ex
    refine ⟨_, pss_cons (ps_fld (pv 0) (pv 1) rfl) (pss_cons (ps_fld (pv 0) (pv 2) rfl) (pss_cons (ps_fld (pv 0) (C8.pe_c CE hr (by decide) rfl (pa_cons (pv 1) (pa_cons (pv 2) pa_nil))) rfl) (pss_cons (ps_fld (pv 0) pe_dnewK rfl) (pss_one (ps_fld (pv 0) pe_dnewK rfl))))), ?_⟩
    refine ⟨_, rfl, _, rfl, x, _, dx, _, rfl, hx, T.c_Roll, T.n_Roll_ruling, (by decide), ?_⟩
    refine ⟨_, rfl, _, rfl, x, _, dx, _, rfl, upd_same, T.c_Roll, T.n_Roll_today, (by show 1 < 1000; decide), ?_⟩
    rw [upd_upd]
    have nrx : r ≠ x := fun e => by
      rw [e, hx] at h1
      have e2 := Option.some.inj h1
      injection e2 with e3 e4 e5
      cases e5
    have nlx : l ≠ x := ne_of h2 hx (by intro z; cases z)
    have ntx : t ≠ x := ne_of h3 hx (by intro z; cases z)
    have RU : ∀ o, RuleAt K (upd H x o) r wd := fun o => ⟨⟨dr, l, t, by rw [upd_ne nrx]; exact h1, by rw [upd_ne nlx]; exact h2, by rw [upd_ne ntx]; exact h3⟩, R.lo, R.hi⟩
    refine ⟨_, rfl, _, rfl, r, wd, day, rfl, RU _, fun H2 p s2 np hp => ?_⟩
    have hx2 := s2 _ _ upd_same
    have npx : x ≠ p := ne_of_none upd_same np
    refine ⟨_, rfl, x, _, dx, _, rfl, hx2, T.c_Roll, T.n_Roll_limits, (by show 2 < 1000; decide), fun wh hwh => ?_⟩
    have nwx : x ≠ wh := ne_of_none upd_same hwh
    have nwp : p ≠ wh := by
      intro e
      rw [← e, upd_ne npx.symm, hp] at hwh
      cases hwh
    refine ⟨_, rfl, x, _, dx, _, rfl, (by rw [upd_ne nwx, upd_same]), T.c_Roll, T.n_Roll_whole, (by show 3 < 1000; decide), fun he hhe => ?_⟩
    have nhx : x ≠ he := ne_of_none upd_same hhe
    have nhp : p ≠ he := by
      intro e
      rw [← e, upd_ne npx.symm, upd_ne nwp, upd_ne npx.symm, hp] at hhe
      cases hhe
    refine ⟨_, rfl, x, _, dx, _, rfl, (by rw [upd_ne nhx, upd_same]), T.c_Roll, T.n_Roll_heaped, (by show 4 < 1000; decide), ?_⟩
    refine q _ p wh he (fun b o nb e => ?_) upd_same (by rw [upd_ne npx.symm] at np; exact np) ?_
    · have e0 : H2 b = some o := s2 b o (by rw [upd_ne nb]; exact e)
      have e1 : (upd H2 x (.ins (cRoll K) dx (putF "limits" (.ref p) (putF "today" (.int day) (putF "ruling" (.ref r) []))))) b = some o := by
        rw [upd_ne nb]
        exact e0
      have nbw : b ≠ wh := ne_of_none e1 hwh
      rw [upd_ne nb, upd_ne (ne_of_none (by rw [upd_ne nb, upd_ne nbw, upd_ne nb]; exact e0) hhe), upd_ne nb, upd_ne nbw, upd_ne nb]
      exact e0
    · rw [upd_ne npx.symm, upd_ne nhp, upd_ne npx.symm, upd_ne nwp, upd_ne npx.symm]
      exact hp
theorem sc_lift : FnScope ["self", "edges"] ["self", "edges"] (defScope s_RollLift) := ⟨rfl, rfl, rfl, by decide +kernel, rfl, by decide +kernel, by decide +kernel⟩
def sp_lift (K : PySem.W.Frag) : Sp := fun vs H Q _ => ∃ (x dx r lim wh he e : Addr) (c day : Int), vs = [.ref x, .ref e] ∧ H x = some (.ins (cRoll K) dx (fRoll r day lim wh he)) ∧ SqL K H lim [.int c, .non] ∧ SqL K H e [.int c, .non] ∧
  ∀ H' : Hp, (∀ b o, b ≠ x → H b = some o → H' b = some o) → Q .non H'
theorem ok_lift (T : Tx K mg) : C8.Met P w K mg base 2 (cRoll K) "lift" (sp_lift K) [] := by
  obtain ⟨fd, F⟩ := T.d_Roll_lift
  have CG : C8.Cal P w K mg base 1 "greater" (sp_gr K) [] := ok_gr T
  refine met_of T.c_Roll T.m_Roll_lift F (F.bindsN (ps := ["self", "edges"]) fun _ _ _ _ _ _ us hl => match us, hl with | [_, _], _ => rfl) .nil sc_lift (fun vs H Q E h => ?_) (fun cdv A outer s H vs Q E hr h => ?_)
  · obtain ⟨x, dx, r, lim, wh, he, e, c, day, rfl, _⟩ := h
    rfl
  · obtain ⟨x, dx, r, lim, wh, he, e, c, day, rfl, hx, hl, hE, q⟩ := h
    refine ⟨_, pss_one (ps_fld (pv 0) (C8.pe_c CG hr (by decide) rfl (pa_cons (pe_fld (pv 0) rfl) (pa_cons (pv 1) pa_nil))) rfl), ?_⟩
    refine ⟨_, rfl, x, _, dx, _, _, rfl, hx, T.c_Roll, T.n_Roll_limits, rfl, _, rfl, lim, e, c, rfl, hl, hE, fun H2 p s2 np hp => ?_⟩
    refine ⟨_, rfl, x, _, dx, _, rfl, s2 _ _ hx, T.c_Roll, T.n_Roll_limits, (by show 5 < 1000; decide), q _ fun b o nb e => ?_⟩
    rw [upd_ne nb]
    exact s2 _ _ e
/-! ### roll_of, of no readings -/
abbrev N_rollof : List Str := ["rule", "day", "edges", "readings", "found", "time", "value", "many"]
theorem sc_rollof : FnScope N_rollof ["rule", "day", "edges", "readings"] (defScope s_roll_of) := ⟨rfl, rfl, rfl, by decide +kernel, rfl, by decide +kernel, by decide +kernel⟩
def sp_rollof (K : PySem.W.Frag) : Sp := fun vs H Q _ => ∃ (r lim rd : Addr) (wd day : Int), vs = [.ref r, .int day, .ref lim, .ref rd] ∧ RuleAt K H r wd ∧ SqL K H lim [.int (cutN wd day), .non] ∧ SqL K H rd [] ∧ ∀ (H' : Hp) (x : Addr), Same H H' → H x = none → Q (.ref x) H'
theorem ok_rollof (T : Tx K mg) : C8.Cal P w K mg base 5 "roll_of" (sp_rollof K) [] := by
  obtain ⟨fd, F⟩ := T.d_roll_of
  have CR : C8.Mak P w K mg base 3 "Roll" (cRoll K) (sp_rollI K) [] := ok_rollI T
  have CL : C8.Met P w K mg base 2 (cRoll K) "lift" (sp_lift K) [] := ok_lift T
  refine cal_of F T.g_roll_of (F.bindsN (ps := ["rule", "day", "edges", "readings"]) fun _ _ _ _ _ _ us hl => match us, hl with | [_, _, _, _], _ => rfl) .nil sc_rollof (fun vs H Q E h => ?_) (fun cdv A outer s H vs Q E hr h => ?_)
  · obtain ⟨r, lim, rd, wd, day, rfl, _⟩ := h
    rfl
  · obtain ⟨r, lim, rd, wd, day, rfl, R, hl, hrd, q⟩ := h
    refine ⟨_, pss_cons (ps_set (i := 4) sc_rollof.nd rfl (.inl rfl) (C8.pe_mk CR hr (by decide) rfl (pa_cons (pv 0) (pa_cons (pv 1) pa_nil))))
      (pss_cons (ps_expr (C8.pe_mt CL hr (by decide) (pv 4) (pa_cons (pv 2) pa_nil)))
      (pss_cons (ps_for PassesOwn.never rfl (pi_list (pv 3)) (pg_tup rfl (pgs_cons (pg_name (i := 5) sc_rollof.nd rfl (.inl rfl)) (pgs_cons (pg_name (i := 6) sc_rollof.nd rfl (.inl rfl)) (pgs_cons (pg_name (i := 7) sc_rollof.nd rfl (.inl rfl)) pgs_nil)))) (pss_one ps_never))
      (pss_one (ps_ret (pv 4))))), ?_⟩
    refine ⟨_, rfl, _, rfl, fun x dx nx ndx nxd => ?_⟩
    have s0 : Same H (upd (upd H dx (.own x)) x (.ins (cRoll K) dx [])) := fun b o e => by
      rw [upd_ne (ne_of_none e nx), upd_ne (ne_of_none e ndx)]
      exact e
    refine ⟨x, dx, r, wd, day, rfl, upd_same, R.ext (Same.ext s0), fun H1 lim' wh he k1 hx1 nl1 hl1 => ⟨rfl, ?_⟩⟩
    have s1 : Same H H1 := fun b o e => k1 b o (ne_of_none e nx) (s0 b o e)
    refine ⟨_, rfl, x, dx, _, rfl, hx1, rfl, _, rfl, x, dx, r, lim', wh, he, lim, cutN wd day, day, rfl, hx1, .inl (.inl hl1), s1.seq hl, fun H2 k2 => ?_⟩
    have s2 : Same H H2 := fun b o e => k2 b o (ne_of_none e nx) (s1 b o e)
    refine ⟨_, rfl, rd, rfl, ⟨_, s2.seq hrd⟩, ?_⟩
    refine for_list (K := K) (a := rd) (xs := []) (fun i σ H' => σ = [some (.ref r), some (.int day), some (.ref lim), some (.ref rd), some (.ref x), none, none, none] ∧ H' = H2) ⟨rfl, rfl⟩ (fun i σ H' _ ⟨_, e⟩ => by rw [e]; exact s2.seq hrd) ?_ ?_
    · intro i y σ H' hi
      cases hi
    · rintro σ H' ⟨rfl, rfl⟩
      exact ⟨_, rfl, q _ x s2 nx⟩
end
end Th
end D3
section K2
/-! Two built-in rules that the layer lacks: list.count of texts, list(d.values()). -/
namespace Kx
open PySem PySem.Spec PyProof.Rows L2
theorem countIn_str (k : Str) : ∀ ys : List Str, countIn (.str k) (ys.map PyData.str) = ((ys.count k : Nat) : Int)
  | [] => rfl
  | y :: r => by
    have ih := countIn_str k r
    rw [List.map_cons, countIn, ih, List.count_cons]
    simp only [same]
    rcases Bool.eq_false_or_eq_true (y == k) with hb | hb <;> simp only [hb, Bool.false_eq_true, if_true, if_false] <;> push_cast <;> omega
section
variable {X : Cx}
theorem mt_lcountS : MtR X "list.count" (fun x xs H Q => ∃ (p : Addr) (ys : List Str) (k : Str), x = .ref p ∧ xs = [.str k] ∧ SqL X.K H p (ys.map V.str) ∧ Q (.int (ys.count k : Nat)) H) := by
  intro pins s σ H x xs v us Q I rx rxs h
  obtain ⟨p, ys, k, rfl, rfl, hs, q⟩ := h
  cases rx
  obtain ⟨u, rfl, ru⟩ := rxs.one
  obtain ⟨t, rfl⟩ := ru
  obtain ⟨its, rv, hl, hlen⟩ := I.list hs
  refine PyProof.Rows.count_list_strs hl.isList rv.strs ?_
  rw [countIn_str]
  exact ⟨.int (ys.count k : Nat), H, I.tok _, ⟨s.toks, rfl⟩, q⟩
end
def tListVals (te : TE) : TE := fun σ H Q => te σ H fun x H1 => ∃ (d : Addr) (kvs : List (Key × V)), x = .ref d ∧ H1 d = some (.dK kvs) ∧ ∀ p, H1 p = none → Q (.ref p) (upd H1 p (.lst (kvs.map (·.2))))
section
variable {X : Cx} {e : Expr} {te : TE} {p apos cpos pos : Pos}
/-- list(e.values()) -/
theorem pe_listVals (hc : X.calm = true) (he : PE X e te) (hg : Gl X "list") (hm : X.mg "list" = none) (hv : bootBuiltins "list" = some (.type "list")) (hbase : attributeBase e "values" X.env (eval e X.env) = eval e X.env := by rfl) (hline : (apos.endLine == cpos.line) = true := by rfl)
    (hs : starEach [.Call (.Attribute e "values" apos) [] [] cpos] X.env = (false, eval (.Call (.Attribute e "values" apos) [] [] cpos) X.env) :: starEach [] X.env := by rfl) :
    PE X (.Call (.Name "list" p) [.Call (.Attribute e "values" apos) [] [] cpos] [] pos) (tListVals te) := by
  refine ⟨fun pins s σ H Q I hq => ?_⟩
  refine wpAny_Call_Name_kw (ld_blt I hg hm hv ?_)
  refine PyProof.Rows.callWith_type1 ?_ hs rfl
  rw [hs]
  show wpAny _ _ (spliced ((false, eval (.Call (.Attribute e "values" apos) [] [] cpos) X.env) :: backTo pos (starEach [] X.env))) _ _ s
  refine Calls.spliced_cons ?_
  refine wpAny_Call_method (T := "dict") (id := "dict.values") hbase rfl hline F.plainAttrs_dict F.slot_dict_values F.type_dict_values (thn (he.run pins s σ H _ I hq) fun u s1 ⟨x, H1, I1, rx, d, kvs, ex, hd, q⟩ => ?_)
  subst ex
  obtain rfl : u = Value.ref d := rx
  obtain ⟨hz, hs0, vs, kv, hdo⟩ := I1.hok d _ hd
  obtain ⟨ep, hat⟩ := hdo.dictAt
  have lk : kvs.length = vs.length := Paired.length kv
  have I2 : Inv X pins σ H1 { s1 with heap := s1.heap.push { cls := .type "dict_values", data := .fields #[.ref d] } } := I1.kept (t' := s1.toks) fun b ob q => Heap.get?_push_of_some _ q
  refine ⟨hdo.typeIs, hdo.mapOf.noDict, ?_⟩
  show wpAny _ _ (callWith cpos (.builtin "dict.values") [.ref d] [] []) _ X.xe s1
  refine method_meetsIn F.slot_dict_values F.entry_dict_values rfl (PySem.evalArgs_none ⟨rfl, hdo.typeIs, F.args_dict_values_1 _, _, meets_dict_values (mixKind X.prog X.w) d hs0, ⟨vs, hdo⟩, ?_⟩)
  refine Calls.spliced_nil ?_
  refine PySem.W.kdl_call (PySem.W.kdl_values (knd := mixKind X.prog X.w) (kvs := vs) (ep := ep)) (I1.ok.hd hc) ⟨⟨_, Heap.get?_push_size _ rfl, rfl, rfl⟩, hat.push _⟩ (by omega) fun h' tk acc c' hk hS hacc => ?_
  refine ⟨.ref _, upd H1 _ (.lst (kvs.map (·.2))), I2.laid (t' := tk) hk (Nat.le_refl _) (show ObjOk X.prog X.w _ _ _ (.lst (kvs.map (·.2))) from ⟨?_, acc.toList, c', ?_, ?_⟩), rfl, q _ (I2.hok.fresh (Nat.le_refl _))⟩
  · rw [List.length_map]
    exact hz
  · have el : acc.toList.length = acc.size := by simp
    refine vals_of_at (by rw [List.length_map, el, hacc.1]; exact lk) fun j x w h1 h2 => ?_
    obtain ⟨k, hky⟩ := hacc.2 j w (by rw [← Array.getElem?_toList]; exact h2)
    rw [List.getElem?_map] at h1
    cases ek : kvs[j]? with
    | none =>
      rw [ek] at h1
      cases h1
    | some pr =>
      rw [ek] at h1
      cases h1
      obtain ⟨u, hu, ru⟩ := kv_get kv (k := pr.1) (v := pr.2) ek
      rw [hky] at hu
      cases hu
      exact ru
  · rw [Array.toArray_toList]
    exact hS
end
end Kx
end K2
section D4
namespace Th
open PySem PySem.Spec PyProof.Rows L2
section
variable {P : Program} {w : World} {K : PySem.W.Frag} {mg : Str → Option Value} {base : Heap}
/-! ### Rule -/
abbrev N_ruleI : List Str := ["self", "steps", "gone", "old", "broad", "age", "width"]
theorem sc_ruleI : FnScope N_ruleI ["self", "steps", "gone"] (defScope s_RuleInit) := ⟨rfl, rfl, rfl, by decide +kernel, rfl, by decide +kernel, by decide +kernel⟩
def sp_ruleI (K : PySem.W.Frag) : Sp := fun vs H Q _ => ∃ (x dx l t : Addr) (wd : Int), vs = [.ref x, .ref l, .non] ∧ H x = some (.ins (cRule K) dx []) ∧ H l = some (.lst [.ref t]) ∧ H t = some (.tup [.int 0, .int wd]) ∧ 1 ≤ wd ∧ wd ≤ 9 ∧
  ∀ H' : Hp, (∀ b o, b ≠ x → H b = some o → H' b = some o) → RuleAt K H' x wd → Q .non H'
theorem ok_ruleI (T : Tx K mg) : C8.Mak P w K mg base 1 "Rule" (cRule K) (sp_ruleI K) [.non] := by
  obtain ⟨fd, F⟩ := T.d_Rule_init
  obtain ⟨tM, hM⟩ := T.i_MOST_STEPS
  obtain ⟨ds, hds, bI⟩ := F.binds1 (ps := ["self", "steps", "gone"]) 2 0 (by simp) rfl (fun D kV doc pm an cdv ct us its hl hi => match us, hl, its, hi with | [_, _], _, [_], _ => ⟨_, rfl, rfl⟩)
  refine mak_of T.k_Rule T.g_Rule F bI hds sc_ruleI (fun vs H Q E h => ?_) (fun cdv A outer s H vs Q E hr h => ?_)
  · obtain ⟨x, dx, l, t, wd, rfl, _⟩ := h
    rfl
  · obtain ⟨x, dx, l, t, wd, rfl, hx, hl, ht, w1, w2, q⟩ := h
    refine ⟨_, pss_cons (ps_if (pt_not (pt_chain op_le op_le pe_int (pe_callB call_len_seq (by rfl) T.z_len PySem.boot_len (pa_cons (pv 1) pa_nil)) (pe_glob (v := .int 5) rfl hM ⟨_, rfl⟩))) (pss_one ps_never) pss_nil)
      (pss_cons (ps_fld (pv 0) (pe_lst pa_nil) rfl)
      (pss_cons (ps_set (i := 3) sc_ruleI.nd rfl (.inl rfl) pe_int)
      (pss_cons (ps_set (i := 4) sc_ruleI.nd rfl (.inl rfl) pe_int)
      (pss_cons (ps_for PassesOwn.never rfl (pi_list (pv 1)) (pg_tup rfl (pgs_cons (pg_name (i := 5) sc_ruleI.nd rfl (.inl rfl)) (pgs_cons (pg_name (i := 6) sc_ruleI.nd rfl (.inl rfl)) pgs_nil)))
        (pss_cons (ps_if (PW.pt (pw_or (pt_cmpR op_lt (pv 5) (pv 3) (nomark _)) (pw_or (pt_cmpR op_lt (pv 6) pe_int (nomark _)) (pw_or1 (pt_cmpR op_ne (pe_op op_mod (pv 6) (pv 4)) pe_int (nomark _)))))) (pss_one ps_never) pss_nil)
        (pss_cons (ps_set (i := 3) sc_ruleI.nd rfl (.inl rfl) (pv 5))
        (pss_cons (ps_set (i := 4) sc_ruleI.nd rfl (.inl rfl) (pv 6))
        (pss_one (ps_expr (pe_bm PySem.F.plainAttrs_list PySem.F.slot_list_append PySem.F.type_list_append mt_append (pe_fld (pv 0) rfl) (pa_cons (pe_tup (pa_cons (pv 5) (pa_cons (pv 6) pa_nil))) pa_nil))))))))
      (pss_cons (ps_if (PW.pt (pw_and (pt_cmp (pc_notN (pv 2))) (pw_and1 (pt_cmpR op_lt (pv 2) (pv 3) (nomark _))))) (pss_one ps_never) pss_nil)
      (pss_one (ps_fld (pv 0) (pv 2) rfl))))))), ?_⟩
    have nlx : l ≠ x := ne_of hl hx (by intro z; cases z)
    have ntx : t ≠ x := ne_of ht hx (by intro z; cases z)
    have ntl : t ≠ l := ne_of ht hl (by intro z; cases z)
    -- not 1 <= len(steps) <= MOST_STEPS
    refine ⟨_, rfl, l, _, rfl, .inl (.inl (.inl hl)), 1, _, rfl, rfl, true, rfl, iteT ?_⟩
    refine ⟨_, _, rfl, rfl, true, rfl, ?_⟩
    refine iteF ?_
    -- self.row = []
    refine ⟨Nat.zero_le _, fun p hp => ?_⟩
    have npx : x ≠ p := ne_of_none hx hp
    have npl : l ≠ p := ne_of_none hl hp
    have npt : t ≠ p := ne_of_none ht hp
    refine ⟨_, rfl, x, _, dx, _, rfl, (by rw [upd_ne npx]; exact hx), T.c_Rule, T.n_Rule_row, (by decide), ?_⟩
    -- old = 0; broad = 1
    let H1 : Hp := upd (upd H p (.lst [])) x (.ins (cRule K) dx (putF "row" (.ref p) []))
    have h1x : H1 x = some (.ins (cRule K) dx (putF "row" (.ref p) [])) := upd_same
    have h1l : H1 l = some (.lst [.ref t]) := (upd_ne nlx).trans ((upd_ne npl).trans hl)
    have h1t : H1 t = some (.tup [.int 0, .int wd]) := (upd_ne ntx).trans ((upd_ne npt).trans ht)
    have h1p : H1 p = some (.lst []) := (upd_ne npx.symm).trans upd_same
    have k1 : ∀ b o, b ≠ x → H b = some o → H1 b = some o := fun b o nb e => (upd_ne nb).trans ((upd_ne (ne_of_none e hp)).trans e)
    show _
    refine ⟨_, rfl, l, rfl, ⟨_, .inl (.inl h1l)⟩, ?_⟩
    refine for_list (K := K) (a := l) (xs := [.ref t]) (fun i σ H' => (i = 0 ∧ σ = [some (.ref x), some (.ref l), some .non, some (.int 0), some (.int 1), none, none] ∧ H' = H1) ∨
        (i = 1 ∧ ∃ t2 : Addr, σ = [some (.ref x), some (.ref l), some .non, some (.int 0), some (.int wd), some (.int 0), some (.int wd)] ∧ H1 t2 = none ∧ H' = upd (upd H1 t2 (.tup [.int 0, .int wd])) p (.lst [.ref t2]))) (.inl ⟨rfl, rfl, rfl⟩) (fun i σ H' _ h => ?_) ?_ ?_
    · rcases h with ⟨_, _, rfl⟩ | ⟨_, t2, _, n2, rfl⟩
      · exact .inl (.inl h1l)
      · exact .inl (.inl (by rw [upd_ne npl, upd_ne (ne_of_none h1l n2)]; exact h1l))
    · rintro i y σ H' hi h
      have hi0 : i = 0 := by
        have := (List.getElem?_eq_some_iff.mp hi).1
        rw [List.length_singleton] at this
        omega
      subst hi0
      have ey : V.ref t = y := Option.some.inj hi
      subst ey
      rcases h with ⟨_, rfl, rfl⟩ | ⟨z, _⟩
      · refine ⟨t, _, rfl, .inl (.inl h1t), rfl, _, _, rfl, _, _, rfl, rfl, ?_⟩
        refine ⟨_, rfl, _, rfl, _, _, rfl, rfl, false, rfl, iteF ?_⟩
        refine ⟨_, rfl, wd, 1, rfl, rfl, false, (by show V.bl (decide (wd < 1)) = _; rw [decide_eq_false (by omega)]), iteF ?_⟩
        refine ⟨_, rfl, _, rfl, wd, 1, rfl, rfl, (by show (0 : Int) < 1; decide), rfl, _, rfl, ?_⟩
        refine iteNS (by show V.int (wd % 1) = V.int 0; rw [Int.emod_one]) ?_
        refine ⟨_, rfl, _, rfl, ?_⟩
        refine ⟨_, rfl, x, _, dx, _, _, rfl, h1x, T.c_Rule, T.n_Rule_row, rfl, .inl ⟨rfl, _, .inl (.inl h1p)⟩, ?_⟩
        refine ⟨_, rfl, _, rfl, (by show 2 ≤ sizeLine; decide), fun t2 n2 => ?_⟩
        refine ⟨p, _, _, rfl, rfl, (by rw [upd_ne (ne_of_none h1p n2)]; exact h1p), (by show 0 < sizeLine; decide), ?_⟩
        exact .inr ⟨rfl, t2, rfl, n2, rfl⟩
      · cases z
    · rintro σ H' h
      rcases h with ⟨z, _⟩ | ⟨_, t2, rfl, n2, rfl⟩
      · cases z
      · have npt2 : p ≠ t2 := ne_of_none h1p n2
        have nxt2 : x ≠ t2 := ne_of_none h1x n2
        refine ⟨_, rfl, false, rfl, iteF ?_⟩
        refine iteF ?_
        refine ⟨_, rfl, _, rfl, x, _, dx, _, rfl, (by rw [upd_ne npx, upd_ne nxt2]; exact h1x), T.c_Rule, T.n_Rule_end, (by show 1 < 1000; decide), ?_⟩
        refine q _ (fun b o nb e => ?_) ⟨⟨dx, p, t2, upd_same, ?_, ?_⟩, w1, w2⟩
        · have e1 := k1 b o nb e
          rw [upd_ne nb, upd_ne (ne_of_none e hp), upd_ne (ne_of_none e1 n2)]
          exact e1
        · rw [upd_ne npx.symm, upd_same]
        · rw [upd_ne nxt2.symm, upd_ne npt2.symm, upd_same]
/-! ### is_word, is_name, is_mark -/
abbrev N_word : List Str := ["thing", "most", "sign"]
theorem sc_word : FnScope N_word ["thing", "most"] (defScope s_is_word) := ⟨rfl, rfl, rfl, by decide +kernel, rfl, by decide +kernel, by decide +kernel⟩
def WordS (n : Nat) (z : Str) : Prop := WordL n z.cps.toList
def sp_word : Sp := fun vs H Q _ => ∃ (z : Str) (n : Nat), vs = [.str z, .int (n : Int)] ∧ WordS n z ∧ n ≤ 12 ∧ ∀ H', Same H H' → Q (.bl true) H'
theorem ok_word (T : Tx K mg) : C8.Cal P w K mg base 1 "is_word" sp_word [] := by
  obtain ⟨fd, F⟩ := T.d_is_word
  obtain ⟨tS, hS⟩ := T.i_SMALL
  refine cal_of F T.g_is_word (F.bindsN (ps := ["thing", "most"]) fun _ _ _ _ _ _ us hl => match us, hl with | [_, _], _ => rfl) .nil sc_word (fun vs H Q E h => ?_) (fun cdv A outer s H vs Q E hr h => ?_)
  · obtain ⟨z, n, rfl, _⟩ := h
    rfl
  · obtain ⟨z, n, rfl, W, hn, q⟩ := h
    refine ⟨_, pss_cons (ps_if (PW.pt (pw_or (pt_not (pt_val (pe_callB call_isi (by rfl) T.z_isinstance (by decide +kernel) (pa_cons (pv 0) (pa_cons (pe_bltn (v := .ty "str") (by rfl) T.z_str (by decide +kernel) rfl) pa_nil)))))
        (pw_or1 (pt_not (pt_chain op_le op_le pe_int (pe_callB call_len_str (by rfl) T.z_len PySem.boot_len (pa_cons (pv 0) pa_nil)) (pv 1)))))) (pss_one (ps_ret pe_bl)) pss_nil)
      (pss_one (ps_ret (pe_callB (cr_all rfl) (by rfl) T.z_all (by decide +kernel) (pa_cons (pe_lc (own := [("sign", 2)]) (g := gName 2) (tt := tYes) rfl sc_word.nd (pi_str (pv 0)) (blkOk_by (N := N_word) (sc := defScope s_is_word) (by decide +kernel))
          (fun _ _ _ _ _ => pg_name (i := 2) sc_word.nd rfl (Or.inl rfl)) (fun _ _ _ _ _ => pts_nil)
          (fun _ _ _ _ _ => pe_cmpR op_in_sign (pv 2) (pe_glob (v := .str alphaS) rfl hS ⟨_, rfl⟩) rfl)) pa_nil)))), ?_⟩
    have hlen : z.length = z.cps.toList.length := by simp [Str.length]
    have W1 := W.pos
    have W2 := W.most
    refine ⟨_, rfl, _, _, _, _, true, rfl, .ty "str", .base (.str _), kit_ty (by decide +kernel), true, rfl, iteF ?_⟩
    refine ⟨_, rfl, z, rfl, Nat.le_of_lt (small1000 (by omega)), 1, _, rfl, rfl, true, (by show V.bl (decide ((1 : Int) ≤ (z.length : Int))) = _; rw [decide_eq_true (by omega)]), iteT ?_⟩
    refine ⟨_, rfl, _, _, rfl, rfl, true, (by show V.bl (decide ((z.length : Int) ≤ (n : Int))) = _; rw [decide_eq_true (by omega)]), ?_⟩
    refine iteF ?_
    refine ⟨_, rfl, z, rfl, fun D hD => ?_⟩
    refine lc_it walk_str (fun i H' => H' = upd H D (.lst (((z.cps.toList.take i).map fun c => decide (c ∈ alphaS.cps.toList)).map V.bl))) rfl (fun _ _ _ _ => trivial) ?_ ?_
    · rintro i y H' H'' hi rfl ⟨rfl, c, hc, rfl⟩
      refine ⟨rfl, _, rfl, c, alphaS, rfl, rfl, _, upd_same, ?_, ?_⟩
      · rw [List.length_map, List.length_map, List.length_take]
        exact small1000 (by omega)
      · rw [upd_upd, List.take_add_one]
        have hc' : z.cps.toList[i]? = some c := by rw [Array.getElem?_toList]; exact hc
        rw [hc', List.map_append, List.map_append]
        rfl
    · rintro H' rfl
      refine ⟨D, (z.cps.toList.map fun c => decide (c ∈ alphaS.cps.toList)), rfl, .inl (.inl ?_), ?_⟩
      · rw [upd_same, List.take_of_length_le (by simp)]
      · have e : (z.cps.toList.map fun c => decide (c ∈ alphaS.cps.toList)).all id = true := by
          rw [List.all_eq_true]
          intro b hb
          obtain ⟨c, hc, rfl⟩ := List.mem_map.mp hb
          have hs := W.sm c hc
          exact decide_eq_true (alpha_mem c hs.1 hs.2)
        rw [e]
        exact q _ (same_upd hD)
theorem sc_isname : FnScope ["thing"] ["thing"] (defScope s_is_name) := ⟨rfl, rfl, rfl, by decide +kernel, rfl, by decide +kernel, by decide +kernel⟩
def sp_isW (n : Nat) : Sp := fun vs H Q _ => ∃ z : Str, vs = [.str z] ∧ WordS n z ∧ ∀ H', Same H H' → Q (.bl true) H'
theorem ok_isname (T : Tx K mg) : C8.Cal P w K mg base 2 "is_name" (sp_isW 12) [] := by
  obtain ⟨fd, F⟩ := T.d_is_name
  obtain ⟨tM, hM⟩ := T.i_MOST_OF_NAME
  have CW : C8.Cal P w K mg base 1 "is_word" sp_word [] := ok_word T
  refine cal_of F T.g_is_name (F.bindsN (ps := ["thing"]) fun _ _ _ _ _ _ us hl => match us, hl with | [_], _ => rfl) .nil sc_isname (fun vs H Q E h => ?_) (fun cdv A outer s H vs Q E hr h => ?_)
  · obtain ⟨z, rfl, _⟩ := h
    rfl
  · obtain ⟨z, rfl, W, q⟩ := h
    refine ⟨_, pss_one (ps_ret (C8.pe_c CW hr (by decide) rfl (pa_cons (pv 0) (pa_cons (pe_glob (v := .int 12) rfl hM ⟨_, rfl⟩) pa_nil)))), ?_⟩
    exact ⟨_, rfl, z, 12, rfl, W, Nat.le_refl _, q⟩
theorem sc_ismark : FnScope ["thing"] ["thing"] (defScope s_is_mark) := ⟨rfl, rfl, rfl, by decide +kernel, rfl, by decide +kernel, by decide +kernel⟩
theorem ok_ismark (T : Tx K mg) : C8.Cal P w K mg base 2 "is_mark" (sp_isW 8) [] := by
  obtain ⟨fd, F⟩ := T.d_is_mark
  obtain ⟨tM, hM⟩ := T.i_MOST_OF_MARK
  have CW : C8.Cal P w K mg base 1 "is_word" sp_word [] := ok_word T
  refine cal_of F T.g_is_mark (F.bindsN (ps := ["thing"]) fun _ _ _ _ _ _ us hl => match us, hl with | [_], _ => rfl) .nil sc_ismark (fun vs H Q E h => ?_) (fun cdv A outer s H vs Q E hr h => ?_)
  · obtain ⟨z, rfl, _⟩ := h
    rfl
  · obtain ⟨z, rfl, W, q⟩ := h
    refine ⟨_, pss_one (ps_ret (C8.pe_c CW hr (by decide) rfl (pa_cons (pv 0) (pa_cons (pe_glob (v := .int 8) rfl hM ⟨_, rfl⟩) pa_nil)))), ?_⟩
    exact ⟨_, rfl, z, 8, rfl, W, by decide, q⟩
end
end Th
end D4
section M2
/-! Sorted lists of texts are one. -/
namespace Th
open PySem PySem.Spec PyProof.Rows
theorem rising_pw : ∀ (p : Str) (l : List Str), risingS p l = true → (p :: l).Pairwise (fun a b => a.cps.toList ≤ b.cps.toList)
  | p, [], _ => List.pairwise_singleton _ _
  | p, x :: r, h => by
    have h1 : (!ltCps x.cps.toList p.cps.toList && risingS x r) = true := h
    rw [Bool.and_eq_true] at h1
    have ih := rising_pw x r h1.2
    have hpx : p.cps.toList ≤ x.cps.toList := by
      have h2 := h1.1
      rw [ltCps_eq, Bool.not_eq_true', decide_eq_false_iff_not] at h2
      exact h2
    refine List.pairwise_cons.mpr ⟨fun y hy => ?_, ih⟩
    rcases List.mem_cons.mp hy with e | hy
    · rw [e]
      exact hpx
    · exact List.le_trans hpx ((List.pairwise_cons.mp ih).1 y hy)
theorem sorted_pw : ∀ (l : List Str), sortedS l = true → l.Pairwise (fun a b => a.cps.toList ≤ b.cps.toList)
  | [], _ => List.Pairwise.nil
  | x :: r, h => rising_pw x r h
theorem str_ext {a b : Str} (h : a.cps.toList = b.cps.toList) : a = b := by
  rw [← SX.S_tl a, ← SX.S_tl b, h]
theorem sorted_one {a b : List Str} (p : a.Perm b) (ha : sortedS a = true) (hb : sortedS b = true) : a = b :=
  List.Perm.eq_of_pairwise (fun x y _ _ h1 h2 => str_ext (List.le_antisymm h1 h2)) (sorted_pw a ha) (sorted_pw b hb) p
end Th
end M2
section D5
namespace Th
open PySem PySem.Spec PyProof.Rows L2
/-! ### books: what stands in the heap -/
/-- an enrolled name: its marks sorted, its roll, its list of marks -/
structure Ent where
  nm : Str
  ms : List Str
  roll : Addr
  ml : Addr
def kR (es : List Ent) : List (Key × V) := es.map fun e => (Sum.inr e.nm, V.ref e.roll)
def kS (es : List Ent) : List (Key × V) := es.map fun e => (Sum.inr e.nm, V.ref e.ml)
structure BookAt (K : PySem.W.Frag) (H : Hp) (b dR dS : Addr) (es : List Ent) : Prop where
  ex : ∃ (dx r lim : Addr) (wd day : Int), H b = some (.ins (cBook K) dx (fBook r day lim dR dS)) ∧ RuleAt K H r wd ∧ H lim = some (.lst [.int (cutN wd day), .non])
  hR : H dR = some (.dK (kR es))
  hS : H dS = some (.dK (kS es))
  ne : dR ≠ dS
  ls : ∀ e ∈ es, H e.ml = some (.lst (e.ms.map V.str))
  nd : (es.map (·.nm)).Nodup
theorem BookAt.ext {K : PySem.W.Frag} {H H' : Hp} {b dR dS : Addr} {es : List Ent} (B : BookAt K H b dR dS es) (e : Ext H H') : BookAt K H' b dR dS es := by
  obtain ⟨dx, r, lim, wd, day, h1, R, h2⟩ := B.ex
  exact ⟨⟨dx, r, lim, wd, day, e.ins h1, R.ext e, e.lst h2⟩, e.dic B.hR, e.dic B.hS, B.ne, fun x hx => e.lst (B.ls x hx), B.nd⟩
theorem valV_ent (g : Ent → V) (z : Str) : ∀ es : List Ent, valV (es.map fun e => ((Sum.inr e.nm : Key), g e)) (Sum.inr z) = (es.find? fun e => decide (e.nm = z)).map g
  | [] => rfl
  | e :: r => by
    have ih := valV_ent g z r
    rw [List.map_cons, List.find?_cons]
    by_cases h : e.nm = z
    · rw [valV_pos (p := ((Sum.inr e.nm : Key), g e)) (show (Sum.inr e.nm : Key) = Sum.inr z by rw [h]), decide_eq_true h]
      rfl
    · rw [valV_neg (p := ((Sum.inr e.nm : Key), g e)) (fun q => h (Sum.inr.inj q)), decide_eq_false h]
      exact ih
theorem find_ent : ∀ {es : List Ent} {e : Ent}, (es.map (·.nm)).Nodup → e ∈ es → (es.find? fun x => decide (x.nm = e.nm)) = some e
  | x :: r, e, nd, h => by
    have nd' := List.nodup_cons.mp nd
    rw [List.find?_cons]
    rcases List.mem_cons.mp h with q | h
    · rw [q, decide_eq_true rfl]
    · have hx : ¬ x.nm = e.nm := fun q => nd'.1 (List.mem_map.mpr ⟨e, h, q.symm⟩)
      rw [decide_eq_false hx]
      exact find_ent nd'.2 h
theorem find_no {es : List Ent} {z : Str} (h : z ∉ es.map (·.nm)) : (es.find? fun x => decide (x.nm = z)) = none := by
  rw [List.find?_eq_none]
  intro x hx hz
  exact h (List.mem_map.mpr ⟨x, hx, of_decide_eq_true hz⟩)
theorem valR {es : List Ent} {e : Ent} (nd : (es.map (·.nm)).Nodup) (h : e ∈ es) : valV (kR es) (Sum.inr e.nm) = some (.ref e.roll) := by
  unfold kR
  rw [valV_ent, find_ent nd h]
  rfl
theorem valS {es : List Ent} {e : Ent} (nd : (es.map (·.nm)).Nodup) (h : e ∈ es) : valV (kS es) (Sum.inr e.nm) = some (.ref e.ml) := by
  unfold kS
  rw [valV_ent, find_ent nd h]
  rfl
theorem valR_no {es : List Ent} {z : Str} (h : z ∉ es.map (·.nm)) : valV (kR es) (Sum.inr z) = none := by
  unfold kR
  rw [valV_ent, find_no h]
  rfl
theorem valS_no {es : List Ent} {z : Str} (h : z ∉ es.map (·.nm)) : valV (kS es) (Sum.inr z) = none := by
  unfold kS
  rw [valV_ent, find_no h]
  rfl
section
variable {P : Program} {w : World} {K : PySem.W.Frag} {mg : Str → Option Value} {base : Heap}
/-! ### marks_looked_at -/
theorem sc_mlook : FnScope ["marks", "mark"] ["marks"] (defScope s_marks_looked_at) := ⟨rfl, rfl, rfl, by decide +kernel, rfl, by decide +kernel, by decide +kernel⟩
def sp_mlook (K : PySem.W.Frag) : Sp := fun vs H Q _ => ∃ (a : Addr) (ms : List Str), vs = [.ref a] ∧ SqL K H a (ms.map V.str) ∧ ms.length ≤ 8 ∧ (∀ m ∈ ms, WordS 8 m) ∧ ms.Nodup ∧
  ∀ (H' : Hp) (p : Addr) (ys : List Str), Same H H' → H p = none → H' p = some (.lst (ys.map V.str)) → ys.Perm ms → sortedS ys = true → Q (.ref p) H'
theorem ok_mlook (T : Tx K mg) : C8.Cal P w K mg base 3 "marks_looked_at" (sp_mlook K) [] := by
  obtain ⟨fd, F⟩ := T.d_marks_looked_at
  obtain ⟨tM, hM⟩ := T.i_MOST_MARKS
  have CI : C8.Cal P w K mg base 2 "is_mark" (sp_isW 8) [] := ok_ismark T
  refine cal_of F T.g_marks_looked_at (F.bindsN (ps := ["marks"]) fun _ _ _ _ _ _ us hl => match us, hl with | [_], _ => rfl) .nil sc_mlook (fun vs H Q E h => ?_) (fun cdv A outer s H vs Q E hr h => ?_)
  · obtain ⟨a, ms, rfl, _⟩ := h
    rfl
  · obtain ⟨a, ms, rfl, ha, h8, hW, hnd, q⟩ := h
    refine ⟨_, pss_cons (ps_if (pt_cmpR op_gt (pe_callB call_len_seq (by rfl) T.z_len PySem.boot_len (pa_cons (pv 0) pa_nil)) (pe_glob (v := .int 8) rfl hM ⟨_, rfl⟩) (nomark _)) (pss_one ps_never) pss_nil)
      (pss_cons (ps_for PassesOwn.never rfl (pi_list (pv 0)) (pg_name (i := 1) sc_mlook.nd rfl (.inl rfl))
        (pss_one (ps_if (PW.pt (pw_or (pt_not (pt_val (C8.pe_c CI hr (by decide) rfl (pa_cons (pv 1) pa_nil)))) (pw_or1 (pt_cmpR op_gt (pe_bm PySem.F.plainAttrs_list PySem.F.slot_list_count PySem.F.type_list_count Kx.mt_lcountS (pv 0) (pa_cons (pv 1) pa_nil)) pe_int (nomark _))))) (pss_one ps_never) pss_nil)))
      (pss_one (ps_ret (pe_callB cr_sortedS (by rfl) T.z_sorted (by decide +kernel) (pa_cons (pv 0) pa_nil))))), ?_⟩
    refine ⟨_, rfl, a, _, rfl, .inl ha, _, _, rfl, rfl, false, (by show V.bl (decide (8 < ((ms.map V.str).length : Int))) = _; rw [decide_eq_false (by rw [List.length_map]; omega)]), iteF ?_⟩
    refine ⟨_, rfl, a, rfl, ⟨_, ha⟩, ?_⟩
    refine for_list (K := K) (a := a) (xs := ms.map V.str) (fun i σ H' => ∃ y, σ = [some (.ref a), y] ∧ Same H H') ⟨none, rfl, Same.refl H⟩ (fun i σ H' _ ⟨_, _, s⟩ => s.seq ha) ?_ ?_
    · rintro i y σ H' hi ⟨y1, rfl, s⟩
      rw [List.getElem?_map] at hi
      obtain ⟨m, hm, rfl⟩ := Option.map_eq_some_iff.mp hi
      have hmm : m ∈ ms := List.mem_of_getElem? hm
      refine ⟨_, rfl, m, rfl, hW m hmm, fun H2 s2 => ⟨true, rfl, iteF ?_⟩⟩
      have s3 : Same H H2 := s.trans s2
      have hc : ms.count m = 1 := List.Nodup.count hnd |>.trans (if_pos hmm)
      refine ⟨_, rfl, .inl ⟨rfl, _, s3.seq ha⟩, _, rfl, a, ms, m, rfl, rfl, s3.seq ha, _, _, rfl, rfl, false, (by show V.bl (decide (1 < ((ms.count m : Nat) : Int))) = _; rw [hc]; rfl), iteF ?_⟩
      exact ⟨_, rfl, s3⟩
    · rintro σ H' ⟨y1, rfl, s⟩
      exact ⟨_, rfl, a, ms, rfl, s.seq ha, by omega, fun ys p hp hs hn => q _ p ys (s.trans (same_upd hn)) (s.free hn) upd_same hp hs⟩
end
end Th
end D5
section D6
namespace Th
open PySem PySem.Spec PyProof.Rows L2
section
variable {P : Program} {w : World} {K : PySem.W.Frag} {mg : Str → Option Value} {base : Heap}
/-! ### Book -/
theorem sc_bookI : FnScope ["self", "rule", "day"] ["self", "rule", "day"] (defScope s_BookInit) := ⟨rfl, rfl, rfl, by decide +kernel, rfl, by decide +kernel, by decide +kernel⟩
def sp_bookI (K : PySem.W.Frag) : Sp := fun vs H Q _ => ∃ (x dx r : Addr) (wd day : Int), vs = [.ref x, .ref r, .int day] ∧ H x = some (.ins (cBook K) dx []) ∧ RuleAt K H r wd ∧
  ∀ (H' : Hp) (dR dS : Addr), (∀ b o, b ≠ x → H b = some o → H' b = some o) → BookAt K H' x dR dS [] → H dR = none → H dS = none → Q .non H'
theorem ok_bookI (T : Tx K mg) : C8.Mak P w K mg base 3 "Book" (cBook K) (sp_bookI K) [] := by
  obtain ⟨fd, F⟩ := T.d_Book_init
  have CE : C8.Cal P w K mg base 2 "edges_at" (sp_edges K) [] := ok_edges T
  refine mak_of T.k_Book T.g_Book F (F.bindsN (ps := ["self", "rule", "day"]) fun _ _ _ _ _ _ us hl => match us, hl with | [_, _, _], _ => rfl) .nil sc_bookI (fun vs H Q E h => ?_) (fun cdv A outer s H vs Q E hr h => ?_)
  · obtain ⟨x, dx, r, wd, day, rfl, _⟩ := h
    rfl
  · obtain ⟨x, dx, r, wd, day, rfl, hx, R, q⟩ := h
    obtain ⟨dr, l, t, h1, h2, h3⟩ := R.ex
    refine ⟨_, pss_cons (ps_fld (pv 0) (pv 1) rfl) (pss_cons (ps_fld (pv 0) (pv 2) rfl) (pss_cons (ps_fld (pv 0) (C8.pe_c CE hr (by decide) rfl (pa_cons (pv 1) (pa_cons (pv 2) pa_nil))) rfl) (pss_cons (ps_fld (pv 0) pe_dnewK rfl) (pss_one (ps_fld (pv 0) pe_dnewK rfl))))), ?_⟩
    refine ⟨_, rfl, _, rfl, x, _, dx, _, rfl, hx, T.c_Book, T.n_Book_ruling, (by decide), ?_⟩
    refine ⟨_, rfl, _, rfl, x, _, dx, _, rfl, upd_same, T.c_Book, T.n_Book_today, (by show 1 < 1000; decide), ?_⟩
    rw [upd_upd]
    have nrx : r ≠ x := fun e => by
      rw [e, hx] at h1
      have e2 := Option.some.inj h1
      injection e2 with e3 e4 e5
      cases e5
    have nlx : l ≠ x := ne_of h2 hx (by intro z; cases z)
    have ntx : t ≠ x := ne_of h3 hx (by intro z; cases z)
    have RU : ∀ o, RuleAt K (upd H x o) r wd := fun o => ⟨⟨dr, l, t, by rw [upd_ne nrx]; exact h1, by rw [upd_ne nlx]; exact h2, by rw [upd_ne ntx]; exact h3⟩, R.lo, R.hi⟩
    refine ⟨_, rfl, _, rfl, r, wd, day, rfl, RU _, fun H2 p s2 np hp => ?_⟩
    have hx2 := s2 _ _ upd_same
    have npx : x ≠ p := ne_of_none upd_same np
    refine ⟨_, rfl, x, _, dx, _, rfl, hx2, T.c_Book, T.n_Book_limits, (by show 2 < 1000; decide), fun wh hwh => ?_⟩
    have nwx : x ≠ wh := ne_of_none upd_same hwh
    have nwp : p ≠ wh := by
      intro e
      rw [← e, upd_ne npx.symm, hp] at hwh
      cases hwh
    refine ⟨_, rfl, x, _, dx, _, rfl, (by rw [upd_ne nwx, upd_same]), T.c_Book, T.n_Book_rolls, (by show 3 < 1000; decide), fun he hhe => ?_⟩
    have nhx : x ≠ he := ne_of_none upd_same hhe
    have nhp : p ≠ he := by
      intro e
      rw [← e, upd_ne npx.symm, upd_ne nwp, upd_ne npx.symm, hp] at hhe
      cases hhe
    have nhw : wh ≠ he := by
      intro e
      rw [← e, upd_ne nwx.symm, upd_same] at hhe
      cases hhe
    refine ⟨_, rfl, x, _, dx, _, rfl, (by rw [upd_ne nhx, upd_same]), T.c_Book, T.n_Book_signs, (by show 4 < 1000; decide), ?_⟩
    have kp : ∀ b o, b ≠ x → H b = some o → (upd (upd (upd (upd (upd H2 x (.ins (cBook K) dx (putF "limits" (.ref p) (putF "today" (.int day) (putF "ruling" (.ref r) []))))) wh (.dK [])) x (.ins (cBook K) dx (putF "rolls" (.ref wh) (putF "limits" (.ref p) (putF "today" (.int day) (putF "ruling" (.ref r) [])))))) he (.dK [])) x (.ins (cBook K) dx (putF "signs" (.ref he) (putF "rolls" (.ref wh) (putF "limits" (.ref p) (putF "today" (.int day) (putF "ruling" (.ref r) []))))))) b = some o := fun b o nb e => by
      have e0 : H2 b = some o := s2 b o (by rw [upd_ne nb]; exact e)
      have e1 : (upd H2 x (.ins (cBook K) dx (putF "limits" (.ref p) (putF "today" (.int day) (putF "ruling" (.ref r) []))))) b = some o := by
        rw [upd_ne nb]
        exact e0
      have nbw : b ≠ wh := ne_of_none e1 hwh
      rw [upd_ne nb, upd_ne (ne_of_none (by rw [upd_ne nb, upd_ne nbw, upd_ne nb]; exact e0) hhe), upd_ne nb, upd_ne nbw, upd_ne nb]
      exact e0
    refine q _ wh he kp ⟨⟨dx, r, p, wd, day, upd_same, ⟨⟨dr, l, t, kp _ _ nrx h1, kp _ _ nlx h2, kp _ _ ntx h3⟩, R.lo, R.hi⟩, ?_⟩, ?_, ?_, nhw, (fun e he => by cases he), List.nodup_nil⟩ ?_ ?_
    · rw [upd_ne npx.symm, upd_ne nhp, upd_ne npx.symm, upd_ne nwp, upd_ne npx.symm]
      exact hp
    · rw [upd_ne nwx.symm, upd_ne nhw, upd_ne nwx.symm, upd_same]
      rfl
    · rw [upd_ne nhx.symm, upd_same]
      rfl
    · rw [upd_ne nwx.symm] at hwh
      cases q0 : H wh with
      | none => rfl
      | some o =>
        rw [s2 wh o (by rw [upd_ne nwx.symm]; exact q0)] at hwh
        cases hwh
    · rw [upd_ne nhx.symm, upd_ne nhw.symm, upd_ne nhx.symm] at hhe
      cases q0 : H he with
      | none => rfl
      | some o =>
        rw [s2 he o (by rw [upd_ne nhx.symm]; exact q0)] at hhe
        cases hhe
/-! ### bare -/
theorem sc_bare : FnScope ["self"] ["self"] (defScope s_bare) := ⟨rfl, rfl, rfl, by decide +kernel, rfl, by decide +kernel, by decide +kernel⟩
def sp_bare (K : PySem.W.Frag) : Sp := fun vs H Q _ => ∃ (b dR dS : Addr) (es : List Ent), vs = [.ref b] ∧ BookAt K H b dR dS es ∧ ∀ (H' : Hp) (x : Addr), Same H H' → H x = none → Q (.ref x) H'
theorem ok_bare (T : Tx K mg) : C8.Met P w K mg base 6 (cBook K) "bare" (sp_bare K) [] := by
  obtain ⟨fd, F⟩ := T.d_Book_bare
  have CR : C8.Cal P w K mg base 5 "roll_of" (sp_rollof K) [] := ok_rollof T
  refine met_of T.c_Book T.m_Book_bare F (F.bindsN (ps := ["self"]) fun _ _ _ _ _ _ us hl => match us, hl with | [_], _ => rfl) .nil sc_bare (fun vs H Q E h => ?_) (fun cdv A outer s H vs Q E hr h => ?_)
  · obtain ⟨b, dR, dS, es, rfl, _⟩ := h
    rfl
  · obtain ⟨b, dR, dS, es, rfl, B, q⟩ := h
    obtain ⟨dx, r, lim, wd, day, h1, R, h2⟩ := B.ex
    refine ⟨_, pss_one (ps_ret (C8.pe_c CR hr (by decide) rfl (pa_cons (pe_fld (pv 0) rfl) (pa_cons (pe_fld (pv 0) rfl) (pa_cons (pe_fld (pv 0) rfl) (pa_cons (pe_lst pa_nil) pa_nil)))))), ?_⟩
    refine ⟨_, rfl, b, _, dx, _, _, rfl, h1, T.c_Book, T.n_Book_ruling, rfl, _, rfl, b, _, dx, _, _, rfl, h1, T.c_Book, T.n_Book_today, rfl, _, rfl, b, _, dx, _, _, rfl, h1, T.c_Book, T.n_Book_limits, rfl, Nat.zero_le _, fun p hp => ?_⟩
    have s1 : Same H (upd H p (.lst [])) := same_upd hp
    exact ⟨r, lim, p, wd, day, rfl, R.ext (Same.ext s1), .inl (.inl (s1 _ _ h2)), .inl (.inl upd_same), fun H' x s hx => q H' x (s1.trans s) (s1.free hx)⟩
/-! ### adopt -/
theorem sc_adopt : FnScope ["self", "name", "marks", "roll"] ["self", "name", "marks", "roll"] (defScope s_adopt) := ⟨rfl, rfl, rfl, by decide +kernel, rfl, by decide +kernel, by decide +kernel⟩
def sp_adopt (K : PySem.W.Frag) : Sp := fun vs H Q _ => ∃ (b dR dS a x : Addr) (z : Str) (ms : List Str) (es : List Ent), vs = [.ref b, .str z, .ref a, .ref x] ∧ BookAt K H b dR dS es ∧ z ∉ es.map (·.nm) ∧ es.length ≤ 100 ∧ H a = some (.lst (ms.map V.str)) ∧ ms.length < 64 ∧
  ∀ (H' : Hp) (p : Addr) (ys : List Str), (∀ c o, H c = some o → c ≠ dR → c ≠ dS → H' c = some o) → H p = none → ys.Perm ms → sortedS ys = true → BookAt K H' b dR dS (es ++ [⟨z, ys, x, p⟩]) → Q .non H'
theorem ok_adopt (T : Tx K mg) : C8.Met P w K mg base 1 (cBook K) "adopt" (sp_adopt K) [] := by
  obtain ⟨fd, F⟩ := T.d_Book_adopt
  refine met_of T.c_Book T.m_Book_adopt F (F.bindsN (ps := ["self", "name", "marks", "roll"]) fun _ _ _ _ _ _ us hl => match us, hl with | [_, _, _, _], _ => rfl) .nil sc_adopt (fun vs H Q E h => ?_) (fun cdv A outer s H vs Q E hr h => ?_)
  · obtain ⟨b, dR, dS, a, x, z, ms, es, rfl, _⟩ := h
    rfl
  · obtain ⟨b, dR, dS, a, x, z, ms, es, rfl, B, hz, hes, ha, h64, q⟩ := h
    obtain ⟨dx, r, lim, wd, day, h1, R, h2⟩ := B.ex
    obtain ⟨dr, l, t, r1, r2, r3⟩ := R.ex
    have hu := hu_of hr
    refine ⟨_, pss_cons (ps_dput hu (pe_fld (pv 0) rfl) (pv 1) (pe_callB cr_sortedS (by rfl) T.z_sorted (by decide +kernel) (pa_cons (pv 2) pa_nil)) rfl) (pss_one (ps_dput hu (pe_fld (pv 0) rfl) (pv 1) (pv 3) rfl)), ?_⟩
    refine ⟨_, rfl, a, ms, rfl, .inl (.inl ha), h64, fun ys p hp hs hn => ?_⟩
    have s1 : Same H (upd H p (.lst (ys.map V.str))) := same_upd hn
    have hSp : dS ≠ p := ne_of_none B.hS hn
    have hRp : dR ≠ p := ne_of_none B.hR hn
    have lenS : (kS es).length < sizeLine := by
      unfold kS
      rw [List.length_map]
      exact small1000 (by omega)
    have lenR : (kR es).length < sizeLine := by
      unfold kR
      rw [List.length_map]
      exact small1000 (by omega)
    refine ⟨_, rfl, b, _, dx, _, _, rfl, s1 _ _ h1, T.c_Book, T.n_Book_signs, rfl, _, rfl, dS, _, rfl, DPut.k (k := Sum.inr z) (s1 _ _ B.hS) lenS, ?_⟩
    have nbS : b ≠ dS := ne_of h1 B.hS (by intro q; cases q)
    have nbR : b ≠ dR := ne_of h1 B.hR (by intro q; cases q)
    refine ⟨_, rfl, _, rfl, b, _, dx, _, _, rfl, (by rw [upd_ne nbS]; exact s1 _ _ h1), T.c_Book, T.n_Book_rolls, rfl, _, rfl, dR, _, rfl, DPut.k (k := Sum.inr z) (by rw [upd_ne B.ne]; exact s1 _ _ B.hR) lenR, ?_⟩
    have kp : ∀ c o, H c = some o → c ≠ dR → c ≠ dS → (upd (upd (upd H p (.lst (ys.map V.str))) dS (.dK (putK (kS es) (Sum.inr z) (.ref p)))) dR (.dK (putK (kR es) (Sum.inr z) (.ref x)))) c = some o := fun c o e n1 n2 => by
      rw [upd_ne n1, upd_ne n2]
      exact s1 _ _ e
    have nl : ∀ (c : Addr) (xs : List V), H c = some (.lst xs) → c ≠ dR ∧ c ≠ dS := fun c xs e => ⟨ne_of e B.hR (by intro q; cases q), ne_of e B.hS (by intro q; cases q)⟩
    refine q _ p ys kp hn hp hs ⟨⟨dx, r, lim, wd, day, kp _ _ h1 nbR nbS, ⟨⟨dr, l, t, kp _ _ r1 (ne_of r1 B.hR (by intro q; cases q)) (ne_of r1 B.hS (by intro q; cases q)), kp _ _ r2 (nl _ _ r2).1 (nl _ _ r2).2, kp _ _ r3 (ne_of r3 B.hR (by intro q; cases q)) (ne_of r3 B.hS (by intro q; cases q))⟩, R.lo, R.hi⟩, kp _ _ h2 (nl _ _ h2).1 (nl _ _ h2).2⟩, ?_, ?_, B.ne, fun e he => ?_, ?_⟩
    · rw [upd_same, putK_new _ (valR_no hz)]
      unfold kR
      rw [List.map_append]
      rfl
    · rw [upd_ne B.ne.symm, upd_same, putK_new _ (valS_no hz)]
      unfold kS
      rw [List.map_append]
      rfl
    · rcases List.mem_append.mp he with he | he
      · have e1 := B.ls e he
        exact kp _ _ e1 (nl _ _ e1).1 (nl _ _ e1).2
      · rw [List.mem_singleton.mp he]
        show _ = some (HO.lst (ys.map V.str))
        rw [upd_ne hRp.symm, upd_ne hSp.symm, upd_same]
    · rw [List.map_append, List.nodup_append]
      refine ⟨B.nd, (by simp), fun y hy y' hy' e => ?_⟩
      rw [List.map_singleton, List.mem_singleton] at hy'
      rw [e, hy'] at hy
      exact hz hy
/-! ### enrol -/
theorem sc_enrol : FnScope ["self", "name", "marks"] ["self", "name", "marks"] (defScope s_enrol) := ⟨rfl, rfl, rfl, by decide +kernel, rfl, by decide +kernel, by decide +kernel⟩
def sp_enrol (K : PySem.W.Frag) : Sp := fun vs H Q _ => ∃ (b dR dS a : Addr) (z : Str) (ms : List Str) (es : List Ent), vs = [.ref b, .str z, .ref a] ∧ BookAt K H b dR dS es ∧ WordS 12 z ∧ z ∉ es.map (·.nm) ∧ es.length ≤ 100 ∧ SqL K H a (ms.map V.str) ∧ ms.length ≤ 8 ∧ (∀ m ∈ ms, WordS 8 m) ∧ ms.Nodup ∧
  ∀ (H' : Hp) (x p : Addr) (ys : List Str), (∀ c o, H c = some o → c ≠ dR → c ≠ dS → H' c = some o) → ys.Perm ms → sortedS ys = true → BookAt K H' b dR dS (es ++ [⟨z, ys, x, p⟩]) → Q .non H'
theorem ok_enrol (T : Tx K mg) : C8.Met P w K mg base 7 (cBook K) "enrol" (sp_enrol K) [] := by
  obtain ⟨fd, F⟩ := T.d_Book_enrol
  obtain ⟨ds, hds, bI⟩ := F.binds1 (ps := ["self", "name", "marks"]) 3 1 (by simp) rfl (fun D kV doc pm an cdv ct us its hl hi => match us, hl, its, hi with | [_, _, _], _, [_], _ => ⟨_, rfl, rfl⟩)
  have CN : C8.Cal P w K mg base 2 "is_name" (sp_isW 12) [] := ok_isname T
  have CM : C8.Cal P w K mg base 3 "marks_looked_at" (sp_mlook K) [] := ok_mlook T
  have CB : C8.Met P w K mg base 6 (cBook K) "bare" (sp_bare K) [] := ok_bare T
  have CA : C8.Met P w K mg base 1 (cBook K) "adopt" (sp_adopt K) [] := ok_adopt T
  refine met_of T.c_Book T.m_Book_enrol F bI hds sc_enrol (fun vs H Q E h => ?_) (fun cdv A outer s H vs Q E hr h => ?_)
  · obtain ⟨b, dR, dS, a, z, ms, es, rfl, _⟩ := h
    rfl
  · obtain ⟨b, dR, dS, a, z, ms, es, rfl, B, hW, hz, hes, ha, h8, hM, hnd, q⟩ := h
    obtain ⟨dx, r, lim, wd, day, h1, _, _⟩ := B.ex
    have hu := hu_of hr
    refine ⟨_, pss_cons (ps_if (PW.pt (pw_or (pt_not (pt_val (C8.pe_c CN hr (by decide) rfl (pa_cons (pv 1) pa_nil)))) (pw_or1 (pt_cmp (pc_din hu (pv 1) (pe_fld (pv 0) rfl)))))) (pss_one ps_never) pss_nil)
      (pss_cons (ps_if (pt_cmp (pc_isN (pv 2))) (pss_one ps_never) pss_nil)
      (pss_one (ps_expr (C8.pe_mt CA hr (by decide) (pv 0) (pa_cons (pv 1) (pa_cons (C8.pe_c CM hr (by decide) rfl (pa_cons (pv 2) pa_nil)) (pa_cons (C8.pe_mt0 CB hr (by decide) (pv 0)) pa_nil))))))), ?_⟩
    refine ⟨_, rfl, z, rfl, hW, fun H1 s1 => ⟨true, rfl, iteF ?_⟩⟩
    have B1 := B.ext (Same.ext s1)
    refine ⟨_, rfl, _, rfl, b, _, dx, _, _, rfl, s1 _ _ h1, T.c_Book, T.n_Book_rolls, rfl, dR, _, rfl, DGet.k (k := Sum.inr z) B1.hR, false, (by rw [valR_no hz]; rfl), iteF ?_⟩
    refine ⟨_, rfl, false, rfl, iteF ?_⟩
    refine ⟨_, rfl, b, dx, _, rfl, s1 _ _ h1, rfl, _, rfl, _, rfl, a, ms, rfl, s1.seq ha, h8, hM, hnd, fun H2 p ys s2 np hp hperm hsort => ?_⟩
    have B2 := B1.ext (Same.ext s2)
    refine ⟨_, rfl, b, dx, _, rfl, s2 _ _ (s1 _ _ h1), rfl, b, dR, dS, es, rfl, B2, fun H3 x s3 nx => ?_⟩
    have B3 := B2.ext (Same.ext s3)
    refine ⟨b, dR, dS, p, x, z, ys, es, rfl, B3, hz, hes, s3 _ _ hp, by rw [hperm.length_eq]; omega, fun H4 p2 ys2 kp np2 hperm2 hsort2 B4 => ?_⟩
    exact q H4 x p2 ys2 (fun c o e n1 n2 => kp c o (s3 _ _ (s2 _ _ (s1 _ _ e))) n1 n2) (hperm2.trans hperm) hsort2 B4
/-! ### sought, names, marks -/
theorem sc_sought : FnScope ["self", "name", "roll"] ["self", "name"] (defScope s_sought) := ⟨rfl, rfl, rfl, by decide +kernel, rfl, by decide +kernel, by decide +kernel⟩
def sp_sought (K : PySem.W.Frag) : Sp := fun vs H Q _ => ∃ (b dR dS : Addr) (es : List Ent) (e : Ent), vs = [.ref b, .str e.nm] ∧ BookAt K H b dR dS es ∧ e ∈ es ∧ ∀ v, Q v H
theorem ok_sought (T : Tx K mg) : C8.Met P w K mg base 1 (cBook K) "sought" (sp_sought K) [] := by
  obtain ⟨fd, F⟩ := T.d_Book_sought
  refine met_of T.c_Book T.m_Book_sought F (F.bindsN (ps := ["self", "name"]) fun _ _ _ _ _ _ us hl => match us, hl with | [_, _], _ => rfl) .nil sc_sought (fun vs H Q E h => ?_) (fun cdv A outer s H vs Q E hr h => ?_)
  · obtain ⟨b, dR, dS, es, e, rfl, _⟩ := h
    rfl
  · obtain ⟨b, dR, dS, es, e, rfl, B, he, q⟩ := h
    obtain ⟨dx, r, lim, wd, day, h1, _, _⟩ := B.ex
    have hu := hu_of hr
    refine ⟨_, pss_cons (ps_set (i := 2) sc_sought.nd rfl (.inl rfl) (pe_dget1 hu (pe_fld (pv 0) rfl) (pv 1) ⟨rfl, rfl, rfl, rfl⟩))
      (pss_cons (ps_if (pt_cmp (pc_isN (pv 2))) (pss_one ps_never) pss_nil) (pss_one (ps_ret (pv 2)))), ?_⟩
    refine ⟨_, rfl, b, _, dx, _, _, rfl, h1, T.c_Book, T.n_Book_rolls, rfl, dR, rfl, .inl ⟨_, .inl B.hR⟩, _, rfl, _, DGet.k (k := Sum.inr e.nm) B.hR, ?_⟩
    rw [valR B.nd he]
    exact ⟨_, rfl, false, rfl, iteF ⟨_, rfl, q _⟩⟩
theorem sc_names : FnScope ["self"] ["self"] (defScope s_names) := ⟨rfl, rfl, rfl, by decide +kernel, rfl, by decide +kernel, by decide +kernel⟩
def sp_names (K : PySem.W.Frag) : Sp := fun vs H Q _ => ∃ (b dR dS : Addr) (es : List Ent), vs = [.ref b] ∧ BookAt K H b dR dS es ∧ es.length ≤ 8 ∧ ∀ (p : Addr) (ns : List Str), ns.Perm (es.map (·.nm)) → sortedS ns = true → H p = none → Q (.ref p) (upd H p (.lst (ns.map V.str)))
theorem ok_names (T : Tx K mg) : C8.Met P w K mg base 1 (cBook K) "names" (sp_names K) [] := by
  obtain ⟨fd, F⟩ := T.d_Book_names
  refine met_of T.c_Book T.m_Book_names F (F.bindsN (ps := ["self"]) fun _ _ _ _ _ _ us hl => match us, hl with | [_], _ => rfl) .nil sc_names (fun vs H Q E h => ?_) (fun cdv A outer s H vs Q E hr h => ?_)
  · obtain ⟨b, dR, dS, es, rfl, _⟩ := h
    rfl
  · obtain ⟨b, dR, dS, es, rfl, B, h8, q⟩ := h
    obtain ⟨dx, r, lim, wd, day, h1, _, _⟩ := B.ex
    refine ⟨_, pss_one (ps_ret (pe_callB (call_sortedD rfl) (by rfl) T.z_sorted (by decide +kernel) (pa_cons (pe_fld (pv 0) rfl) pa_nil))), ?_⟩
    refine ⟨_, rfl, b, _, dx, _, _, rfl, h1, T.c_Book, T.n_Book_rolls, rfl, dR, kR es, es.map (·.nm), rfl, .inl B.hR, ?_, ?_, fun ys p hp hs hn => q p ys hp hs hn⟩
    · unfold kR
      rw [List.map_map, List.map_map]
      rfl
    · rw [List.length_map]
      omega
theorem sc_marks : FnScope ["self", "name"] ["self", "name"] (defScope s_marks) := ⟨rfl, rfl, rfl, by decide +kernel, rfl, by decide +kernel, by decide +kernel⟩
def sp_marks (K : PySem.W.Frag) : Sp := fun vs H Q _ => ∃ (b dR dS : Addr) (es : List Ent) (e : Ent), vs = [.ref b, .str e.nm] ∧ BookAt K H b dR dS es ∧ e ∈ es ∧ ∀ p : Addr, H p = none → Q (.ref p) (upd H p (.lst (e.ms.map V.str)))
theorem ok_marks (T : Tx K mg) : C8.Met P w K mg base 2 (cBook K) "marks" (sp_marks K) [] := by
  obtain ⟨fd, F⟩ := T.d_Book_marks
  have CS : C8.Met P w K mg base 1 (cBook K) "sought" (sp_sought K) [] := ok_sought T
  refine met_of T.c_Book T.m_Book_marks F (F.bindsN (ps := ["self", "name"]) fun _ _ _ _ _ _ us hl => match us, hl with | [_, _], _ => rfl) .nil sc_marks (fun vs H Q E h => ?_) (fun cdv A outer s H vs Q E hr h => ?_)
  · obtain ⟨b, dR, dS, es, e, rfl, _⟩ := h
    rfl
  · obtain ⟨b, dR, dS, es, e, rfl, B, he, q⟩ := h
    obtain ⟨dx, r, lim, wd, day, h1, _, _⟩ := B.ex
    have hu := hu_of hr
    refine ⟨_, pss_cons (ps_expr (C8.pe_mt CS hr (by decide) (pv 0) (pa_cons (pv 1) pa_nil)))
      (pss_one (ps_ret (pe_callTy call_list_of (by rfl) T.z_list (by decide +kernel) (pa_cons (pe_dget hu (pe_fld (pv 0) rfl) (pv 1) (fun _ _ => rfl)) pa_nil)))), ?_⟩
    refine ⟨_, rfl, b, dx, _, rfl, h1, rfl, _, rfl, b, dR, dS, es, e, rfl, B, he, fun v => ?_⟩
    exact ⟨_, rfl, b, _, dx, _, _, rfl, h1, T.c_Book, T.n_Book_signs, rfl, _, rfl, dS, .ref e.ml, rfl, (by rw [← valS B.nd he]; exact DGet.k (k := Sum.inr e.nm) B.hS), e.ml, _, rfl, .inl (.inl (.inl (B.ls e he))), fun p hp => q p hp⟩
end
end Th
end D6
section M3
/-! Words of a sieve's text. -/
namespace Th
open PySem PySem.Spec PyProof.Rows
abbrev minusS : Str := "-"
abbrev blankS : Str := " "
abbrev noneS : Str := ""
/-- a word: a sign, none or -, and a mark -/
abbrev wordP (p : Str × Str) : Str := p.1 ++ p.2
structure PairOk (p : Str × Str) : Prop where
  sg : p.1 = noneS ∨ p.1 = minusS
  wd : WordL 8 p.2.cps.toList
theorem app_tl (a b : Str) : (a ++ b).cps.toList = a.cps.toList ++ b.cps.toList := TL.tl_append a b
theorem none_app (a : Str) : noneS ++ a = a := str_ext (by rw [app_tl]; rfl)
theorem minus_tl (a : Str) : (minusS ++ a).cps.toList = 45 :: a.cps.toList := by
  rw [app_tl]
  rfl
theorem starts_eq (x y : Str) (hy : TL.tl y ≠ []) : Txt.startswith x y = TL.pre (TL.tl y) (TL.tl x) := by
  have h := TL.at_iff (x := x) hy 0
  rw [List.drop_zero] at h
  rw [Bool.eq_iff_iff, ← h]
  unfold Txt.startswith
  rw [Bool.and_eq_true, decide_eq_true_eq]
  exact Iff.rfl
theorem starts_minus (a : Str) : Txt.startswith (minusS ++ a) minusS = true := by
  rw [starts_eq _ _ (by decide)]
  show TL.pre [45] ((minusS ++ a).cps.toList) = true
  rw [minus_tl]
  unfold TL.pre
  rfl
theorem starts_word {a : Str} (h : WordL 8 a.cps.toList) : Txt.startswith a minusS = false := by
  rw [starts_eq _ _ (by decide)]
  show TL.pre [45] a.cps.toList = false
  have hp := h.pos
  have hs := h.sm
  cases e : a.cps.toList with
  | nil =>
    rw [e] at hp
    cases hp
  | cons c r =>
    rw [e] at hs
    have hc := hs c List.mem_cons_self
    exact TL.pre_of_head _ _ (by
      unfold Sm at hc
      omega)
theorem cut_minus (a : Str) : Txt.slice (minusS ++ a) (some 1) none = a := by
  have e : minusS ++ a = SX.S (45 :: a.cps.toList) := str_ext (minus_tl a)
  rw [e, SX.slice_from (by decide)]
  exact str_ext rfl
theorem minus_ne (a : Str) : a ≠ minusS ++ a := fun h => by
  have h2 := congrArg (fun x : Str => x.cps.toList.length) h
  simp only [minus_tl, List.length_cons] at h2
  omega
/-- a word has no blank -/
theorem word_noblank {p : Str × Str} (h : PairOk p) : 32 ∉ TL.tl (wordP p) := by
  have hm : 32 ∉ p.2.cps.toList := fun hz => by
    have := h.wd.sm 32 hz
    unfold Sm at this
    omega
  show 32 ∉ (p.1 ++ p.2).cps.toList
  rw [app_tl]
  rcases h.sg with e | e
  · rw [e]
    exact hm
  · rw [e]
    show 32 ∉ [45] ++ p.2.cps.toList
    intro hz
    rcases List.mem_cons.mp hz with z | z
    · omega
    · exact hm z
theorem word_len {p : Str × Str} (h : PairOk p) : 1 ≤ (wordP p).cps.toList.length ∧ (wordP p).cps.toList.length ≤ 9 := by
  have h1 := h.wd.pos
  have h2 := h.wd.most
  show 1 ≤ (p.1 ++ p.2).cps.toList.length ∧ (p.1 ++ p.2).cps.toList.length ≤ 9
  rw [app_tl, List.length_append]
  rcases h.sg with e | e
  · rw [e]
    have e0 : noneS.cps.toList.length = 0 := by rfl
    omega
  · rw [e]
    have e0 : minusS.cps.toList.length = 1 := by rfl
    omega
abbrev textP (ps : List (Str × Str)) : Str := Txt.join blankS (ps.map wordP)
theorem text_split {ps : List (Str × Str)} (hne : ps ≠ []) (h : ∀ p ∈ ps, PairOk p) : Txt.split (textP ps) blankS = ps.map wordP :=
  TL.split_join (s := 32) (S := []) (by rfl) (by decide +kernel) (fun e => hne (List.map_eq_nil_iff.mp e)) (fun z hz => by
    obtain ⟨p, hp, rfl⟩ := List.mem_map.mp hz
    exact word_noblank (h p hp))
theorem text_nil : textP [] = noneS := by rfl
theorem text_tl : ∀ ps : List (Str × Str), (textP ps).cps.toList = TL.joinL [32] ((ps.map wordP).map TL.tl) := fun ps => by
  show TL.tl (Txt.join blankS (ps.map wordP)) = _
  rw [TL.join_eq, TL.tl_join]
  rfl
theorem text_ne {ps : List (Str × Str)} (hne : ps ≠ []) (h : ∀ p ∈ ps, PairOk p) : textP ps ≠ noneS := fun e => by
  have e2 := text_tl ps
  rw [e] at e2
  cases ps with
  | nil => exact hne rfl
  | cons p r =>
    have hl := (word_len (h p List.mem_cons_self)).1
    cases r with
    | nil =>
      have e3 : ([] : List Nat) = (wordP p).cps.toList := e2
      rw [← e3] at hl
      cases hl
    | cons q r =>
      have e3 : ([] : List Nat) = (wordP p).cps.toList ++ ([32] ++ TL.joinL [32] ((q :: r).map wordP |>.map TL.tl)) := e2
      have e4 := congrArg List.length e3
      rw [List.length_append] at e4
      have e5 : ([] : List Nat).length = 0 := rfl
      omega
theorem text_len {ps : List (Str × Str)} (h2 : ps.length ≤ 2) (h : ∀ p ∈ ps, PairOk p) : (textP ps).length ≤ 100 := by
  have el : (textP ps).length = (textP ps).cps.toList.length := by simp [Str.length]
  rw [el, text_tl]
  match ps, h2, h with
  | [], _, _ => exact Nat.zero_le _
  | [p], _, h =>
    have h1 := (word_len (h p List.mem_cons_self)).2
    show (wordP p).cps.toList.length ≤ 100
    omega
  | [p, q], _, h =>
    have h1 := (word_len (h p List.mem_cons_self)).2
    have h3 := (word_len (h q (List.mem_cons_of_mem _ List.mem_cons_self))).2
    show ((wordP p).cps.toList ++ ([32] ++ (wordP q).cps.toList)).length ≤ 100
    rw [List.length_append, List.length_append, List.length_singleton]
    omega
/-- whether a sieve lets such marks by -/
def psB (ps : List (Str × Str)) (ms : List Str) : Bool := ps.all fun p => (decide (p.2 ∈ ms)) == (decide (p.1 = noneS))
/-- an entry of a sieve's dict: a mark, its ways, their list's place -/
structure WEnt where
  nm : Str
  bs : List Bool
  ad : Nat
def letsB (wl : List WEnt) (ms : List Str) : Bool := wl.all fun e => e.bs.all fun b => (decide (e.nm ∈ ms)) == b
def addW (m : Str) (b : Bool) (wl : List WEnt) : List WEnt := wl.map fun e => if e.nm = m then { e with bs := e.bs ++ [b] } else e
theorem letsB_cons (e : WEnt) (r : List WEnt) (ms : List Str) : letsB (e :: r) ms = ((e.bs.all fun b => (decide (e.nm ∈ ms)) == b) && letsB r ms) := rfl
theorem addW_cons (m : Str) (b : Bool) (e : WEnt) (r : List WEnt) : addW m b (e :: r) = (if e.nm = m then { e with bs := e.bs ++ [b] } else e) :: addW m b r := rfl
theorem letsB_key (m : Str) (b : Bool) (ms : List Str) : ∀ wl : List WEnt, letsB (addW m b wl) ms = (letsB wl ms && (!decide (m ∈ wl.map (·.nm)) || ((decide (m ∈ ms)) == b)))
  | [] => by simp [letsB, addW]
  | e :: r => by
    have ih := letsB_key m b ms r
    rw [addW_cons, letsB_cons, letsB_cons, ih]
    by_cases h : e.nm = m
    · subst h
      rw [if_pos rfl]
      have h1 : decide (e.nm ∈ (e :: r).map (·.nm)) = true := decide_eq_true (by simp)
      rw [h1]
      show ((e.bs ++ [b]).all (fun b => (decide (e.nm ∈ ms)) == b) && _) = _
      rw [List.all_append]
      simp only [List.all_cons, List.all_nil, Bool.and_true, Bool.not_true, Bool.false_or]
      cases (e.bs.all fun b => decide (e.nm ∈ ms) == b) <;> cases (decide (e.nm ∈ ms) == b) <;> cases (letsB r ms) <;> cases (decide (e.nm ∈ r.map (·.nm))) <;> rfl
    · rw [if_neg h]
      have h1 : decide (m ∈ (e :: r).map (·.nm)) = decide (m ∈ r.map (·.nm)) := by
        apply decide_eq_decide.mpr
        rw [List.map_cons, List.mem_cons]
        exact ⟨fun z => z.elim (fun q => absurd q.symm h) id, Or.inr⟩
      rw [h1, Bool.and_assoc]
theorem letsB_add {m : Str} {b : Bool} {ms : List Str} {wl : List WEnt} (hm : m ∈ wl.map (·.nm)) : letsB (addW m b wl) ms = (letsB wl ms && ((decide (m ∈ ms)) == b)) := by
  rw [letsB_key, decide_eq_true hm]
  rfl
theorem letsB_new {m : Str} {a : Nat} {ms : List Str} (wl : List WEnt) : letsB (wl ++ [⟨m, [], a⟩]) ms = letsB wl ms := by
  unfold letsB
  rw [List.all_append]
  simp
end Th
end M3
section D7
namespace Th
open PySem PySem.Spec PyProof.Rows L2 NdefX LamX Clo
/-! ### closures, further -/
theorem cellO_ne {c : Addr} {v : V} (ps : Array Value) : CellO c v ≠ .tbl ps := fun z => by
  unfold CellO at z
  cases z
theorem clo_ext {H H' : Hp} {f : Addr} {F : NF} {fr : List Str} {ws : List V} (C : CloAt H f F fr ws) (e : Ext H H') : CloAt H' f F fr ws :=
  ⟨e _ _ C.fn fnO_ne, e _ _ C.co codeO_ne, C.len, C.all, C.inj, fun i y h => by
    obtain ⟨c, v, h1, h2, h3⟩ := C.has i y h
    exact ⟨c, v, h1, h2, e _ _ h3 cellO_ne⟩⟩
theorem clo_out {H : Hp} {f : Addr} {F : NF} {fr : List Str} {ws : List V} (C : CloAt H f F fr ws) (ok : ClOk F.cl) {b : Addr} {o : HO} (h : H b = some o) (n : ∀ v, o ≠ CellO b v) : b ∉ F.cl.map (·.2) := fun hb => by
  obtain ⟨p, hp, e⟩ := List.mem_map.mp hb
  have h1 := ok p.1 p.2 hp
  obtain ⟨i, hi⟩ := C.all _ _ h1
  obtain ⟨c, v, h2, _, h3⟩ := C.has i _ hi
  rw [h1] at h2
  cases h2
  rw [e, h] at h3
  exact n v (Option.some.inj h3)
/-- what a call that keeps all gives, with the cells back -/
theorem same_addC {cl : List (Str × Addr)} {H H' : Hp} (s : Same (dropC cl H) H') : Same H (addC cl H H') := fun b o e => by
  by_cases hb : b ∈ cl.map (·.2)
  · exact (if_pos hb).trans e
  · rw [addC_ne hb]
    exact s b o (by rw [dropC_ne hb]; exact e)
theorem same_unlock {H H' : Hp} {d : Addr} {u : HO} {od : Obj} (hd : H d = some u) (s : Same (upd H d (.frz od u)) H') : Same H (upd H' d u) := fun b o e => by
  by_cases hb : b = d
  · rw [hb, upd_same, ← e, hb, hd]
  · rw [upd_ne hb]
    exact s b o (by rw [upd_ne hb]; exact e)
/-! ### sieve's closure -/
def kW (wl : List WEnt) : List (Key × V) := wl.map fun e => (Sum.inr e.nm, V.ref e.ad)
theorem inV_str (m : Str) : ∀ ms : List Str, inV (.str m) (ms.map V.str) = decide (m ∈ ms)
  | [] => rfl
  | y :: r => by
    have ih := inV_str m r
    unfold inV at ih ⊢
    rw [List.map_cons, List.any_cons, ih]
    show ((y == m) || decide (m ∈ r)) = _
    by_cases h : y = m
    · subst h
      rw [beq_self_eq_true, Bool.true_or]
      exact (decide_eq_true (by simp)).symm
    · rw [beq_eq_false_iff_ne.mpr h, Bool.false_or]
      apply decide_eq_decide.mpr
      rw [List.mem_cons]
      exact ⟨Or.inr, fun z => z.elim (fun q => absurd q.symm h) id⟩
theorem flat_strs (ms : List Str) : (ms.map V.str).all flatV = true := by
  rw [List.all_eq_true]
  intro x hx
  obtain ⟨m, _, rfl⟩ := List.mem_map.mp hx
  rfl
abbrev s_lets : Stmt := (defBody s_sieve).getD 3 (.Pass ⟨0, 0, 0, 0⟩)
abbrev qLets : Str := ("sieve" : Str) ++ ".<locals>." ++ "lets"
abbrev fLets (cl : List (Str × Addr)) (c' : Addr) : NF := NF.of s_lets "lets" qLets cl c'
abbrev N_lets : List Str := ["marks", "wanted", "mark", "ways", "way"]
theorem sc_lets : NScope N_lets ["marks"] ["wanted"] (C8.fnScope s_lets) := nscope_by (by decide +kernel)
section
variable {P : Program} {w : World} {K : PySem.W.Frag} {mg : Str → Option Value} {base : Heap}
def sp_lets (K : PySem.W.Frag) : List (Option V) → Sp := fun ws vs H Q _ => ∃ (d a : Addr) (wl : List WEnt) (ms : List Str), ws = [some (.ref d)] ∧ vs = [.ref a] ∧ H d = some (.dK (kW wl)) ∧ (∀ e ∈ wl, H e.ad = some (.lst (e.bs.map V.bl))) ∧ SqL K H a (ms.map V.str) ∧
  ∀ H', Same H H' → Q (.bl (letsB wl ms)) H'
theorem ok_lets {f : Addr} {cl : List (Str × Addr)} {c' : Addr} : NOk P w K mg base C8.CX0 1 f (fLets cl c') ["marks"] ["wanted"] (sp_lets K) := by
  refine nok_of sc_lets (fun doc pm ctv us hl => match us, hl with | [_], _ => rfl) (fun ws vs H Q E h => ?_) (fun A outer s H vs ws Q E hr hf hc hl h => ?_)
  · obtain ⟨d, a, wl, ms, _, rfl, _⟩ := h
    rfl
  · obtain ⟨d, a, wl, ms, rfl, rfl, hd, hls, ha, q⟩ := h
    refine ⟨_, PSs.nox (pss_cons (ps_lock (ps_for PassesOwn.never rfl (pi_items (pv 1)) (pg_tup rfl (pgs_cons (pg_name (i := 2) sc_lets.nd rfl (.inl rfl)) (pgs_cons (pg_name (i := 3) sc_lets.nd rfl (.inl rfl)) pgs_nil)))
        (pss_one (ps_for PassesOwn.never rfl (pi_list (pv 3)) (pg_name (i := 4) sc_lets.nd rfl (.inl rfl))
          (pss_one (ps_if (pt_cmpR op_ne (pe_cmpR op_in_seq (pv 2) (pv 0) rfl) (pv 4) (nomark _)) (pss_one (ps_ret pe_bl)) pss_nil))))))
      (pss_one (ps_ret pe_bl))), ?_⟩
    refine ⟨d, _, hd, trivial, fun od => ?_⟩
    refine ⟨_, rfl, d, od, kW wl, rfl, upd_same, ?_⟩
    have nad : ∀ (b : Addr) (xs : List V), H b = some (.lst xs) → b ≠ d := fun b xs e => ne_of e hd (by intro z; cases z)
    refine for_it (walk_items (d := d) (o := od) (kvs := kW wl)) (fun i σ H' => ∃ y2 y3 y4, σ = [some (.ref a), some (.ref d), y2, y3, y4] ∧ Same (upd H d (.frz od (.dK (kW wl)))) H' ∧ (wl.take i).all (fun e => e.bs.all fun b => (decide (e.nm ∈ ms)) == b) = true)
      ⟨none, none, none, rfl, Same.refl _, rfl⟩ (fun i σ H' _ ⟨_, _, _, _, s, _⟩ => s _ _ upd_same) ?_ ?_
    · rintro i x σ H' H'' hi ⟨y2, y3, y4, rfl, s, hall⟩ ⟨T, x1, x2, rfl, nT, rfl, e1, e2⟩
      have hi' : i < wl.length := by
        have h2 := hi
        unfold kW at h2
        rwa [List.length_map] at h2
      have hk : (kW wl)[i]? = some (Sum.inr wl[i].nm, V.ref wl[i].ad) := by
        unfold kW
        rw [List.getElem?_map, List.getElem?_eq_getElem hi']
        rfl
      have ex1 : V.str wl[i].nm = x1 := by
        have z : (kW wl)[i]?.map (fun kv => kV kv.1) = some x1 := e1
        rw [hk] at z
        exact Option.some.inj z
      have ex2 : V.ref wl[i].ad = x2 := by
        have z : (kW wl)[i]?.map Prod.snd = some x2 := e2
        rw [hk] at z
        exact Option.some.inj z
      subst ex1 ex2
      have s2 : Same (upd H d (.frz od (.dK (kW wl)))) (upd H' T (.tup [V.str wl[i].nm, V.ref wl[i].ad])) := s.trans (same_upd nT)
      have hway := hls wl[i] (List.getElem_mem hi')
      have hway2 : (upd H' T (.tup [V.str wl[i].nm, V.ref wl[i].ad])) wl[i].ad = some (.lst (wl[i].bs.map V.bl)) := s2 _ _ (by rw [upd_ne (nad _ _ hway)]; exact hway)
      have ha2 : SqL K (upd H' T (.tup [V.str wl[i].nm, V.ref wl[i].ad])) a (ms.map V.str) := by
        refine s2.seq ?_
        rcases ha with (h1 | ⟨o, h1⟩) | h1
        · exact .inl (.inl (by rw [upd_ne (nad _ _ h1)]; exact h1))
        · refine .inl (.inr ⟨o, ?_⟩)
          rw [upd_ne (ne_of h1 hd (by intro z; cases z))]
          exact h1
        · exact .inr h1
      refine ⟨T, _, rfl, .inl (.inl upd_same), rfl, _, _, rfl, _, _, rfl, rfl, ?_⟩
      refine ⟨_, rfl, wl[i].ad, rfl, ⟨_, .inl (.inl hway2)⟩, ?_⟩
      refine for_list (K := K) (a := wl[i].ad) (xs := wl[i].bs.map V.bl) (fun j σ H3 => ∃ y4, σ = [some (.ref a), some (.ref d), some (.str wl[i].nm), some (.ref wl[i].ad), y4] ∧ H3 = upd H' T (.tup [V.str wl[i].nm, V.ref wl[i].ad]) ∧ (wl[i].bs.take j).all (fun b => (decide (wl[i].nm ∈ ms)) == b) = true)
        ⟨y4, rfl, rfl, rfl⟩ (fun j σ H3 _ ⟨_, _, e, _⟩ => by rw [e]; exact .inl (.inl hway2)) ?_ ?_
      · rintro j y σ H3 hj ⟨y5, rfl, rfl, hall2⟩
        rw [List.getElem?_map] at hj
        obtain ⟨bb, hb, rfl⟩ := Option.map_eq_some_iff.mp hj
        refine ⟨_, rfl, _, rfl, a, _, rfl, .inl ha2, rfl, flat_strs ms, _, rfl, rfl, _, rfl, ?_⟩
        rw [inV_str]
        by_cases hq : decide (wl[i].nm ∈ ms) = bb
        · refine iteNS (by rw [if_neg (by decide), hq]) ?_
          refine ⟨_, rfl, rfl, ?_⟩
          rw [List.take_add_one, hb, List.all_append, hall2]
          show ((decide (wl[i].nm ∈ ms) == bb) && true) = true
          rw [hq, beq_self_eq_true]
          rfl
        · have hne : (!decide (V.bl (decide (wl[i].nm ∈ ms)) = V.bl bb)) = true := by
            rw [decide_eq_false (fun z => hq (V.bl.inj z))]
            rfl
          rw [if_neg (by decide), hne]
          refine iteT ⟨s2 _ _ upd_same, ?_⟩
          have hfalse : letsB wl ms = false := by
            unfold letsB
            rw [List.all_eq_false]
            refine ⟨wl[i], List.getElem_mem hi', ?_⟩
            rw [Bool.not_eq_true, List.all_eq_false]
            exact ⟨bb, List.mem_of_getElem? hb, by rw [Bool.not_eq_true]; exact beq_eq_false_iff_ne.mpr hq⟩
          have q2 := q _ (same_unlock hd s2)
          rw [hfalse] at q2
          exact q2
      · rintro σ H3 ⟨y5, rfl, rfl, hall2⟩
        refine ⟨_, _, _, rfl, s2, ?_⟩
        rw [List.take_add_one, List.getElem?_eq_getElem hi', List.all_append, hall]
        rw [List.take_of_length_le (by rw [List.length_map]; exact Nat.le_refl _)] at hall2
        show ((wl[i].bs.all fun b => (decide (wl[i].nm ∈ ms)) == b) && true) = true
        rw [hall2]
        rfl
    · rintro σ H' ⟨y2, y3, y4, rfl, s, hall⟩
      refine ⟨s _ _ upd_same, ?_⟩
      have el : (kW wl).length = wl.length := by
        unfold kW
        rw [List.length_map]
      rw [el, List.take_length] at hall
      have q2 := q _ (same_unlock hd s)
      have hl2 : letsB wl ms = true := hall
      rw [hl2] at q2
      exact q2
/-- a sieve of a text stands at f -/
structure SieveAt (K : PySem.W.Frag) (H : Hp) (f : Addr) (ps : List (Str × Str)) : Prop where
  ex : ∃ (cl : List (Str × Addr)) (c' d : Addr) (wl : List WEnt), CloAt H f (fLets cl c') ["wanted"] [.ref d] ∧ ClOk cl ∧ H d = some (.dK (kW wl)) ∧ (∀ e ∈ wl, H e.ad = some (.lst (e.bs.map V.bl))) ∧ ∀ ms, letsB wl ms = psB ps ms
theorem SieveAt.ext {H H' : Hp} {f : Addr} {ps : List (Str × Str)} (S : SieveAt K H f ps) (e : Ext H H') : SieveAt K H' f ps := by
  obtain ⟨cl, c', d, wl, C, ok, h1, h2, h3⟩ := S.ex
  exact ⟨cl, c', d, wl, clo_ext C e, ok, e.dic h1, fun x hx => e.lst (h2 x hx), h3⟩
def spc_sieve (K : PySem.W.Frag) : Addr → Sp := fun f vs H Q _ => ∃ (ps : List (Str × Str)) (a : Addr) (ms : List Str), vs = [.ref a] ∧ SieveAt K H f ps ∧ SqL K H a (ms.map V.str) ∧ ∀ H', Same H H' → Q (.bl (psB ps ms)) H'
theorem call_sieve : CallOk P w K mg base 1 (spc_sieve K) := by
  refine ⟨fun f vs H Q E h => ?_, fun f A outer s H us vs Q hr e0 r h => ?_⟩
  · obtain ⟨ps, a, ms, _, S, _⟩ := h
    obtain ⟨cl, c', d, wl, C, _⟩ := S.ex
    exact ⟨_, C.fn⟩
  · obtain ⟨ps, a, ms, rfl, S, ha, q⟩ := h
    obtain ⟨cl, c', d, wl, C, ok, h1, h2, h3⟩ := S.ex
    refine run_clo (ok_lets (K := K)) hr e0 C ok r ⟨d, a, wl, ms, rfl, rfl, ?_, fun e he => ?_, ?_, fun H' s' _ => ?_⟩
    · rw [dropC_ne (clo_out C ok h1 (fun v z => by cases z))]
      exact h1
    · rw [dropC_ne (clo_out C ok (h2 e he) (fun v z => by cases z))]
      exact h2 e he
    · rcases ha with (h | ⟨o, h⟩) | h
      · exact .inl (.inl (by rw [dropC_ne (clo_out C ok h (fun v z => by cases z))]; exact h))
      · exact .inl (.inr ⟨o, by rw [dropC_ne (clo_out C ok h (fun v z => by cases z))]; exact h⟩)
      · exact .inr h
    · rw [h3]
      exact q _ (same_addC s')
end
end Th
end D7
section D8
namespace Th
open PySem PySem.Spec PyProof.Rows L2 NdefX LamX Clo
abbrev s_ownl : Stmt := (defBody s_own).getD 0 (.Pass ⟨0, 0, 0, 0⟩)
abbrev qOwn : Str := ("_law_own" : Str) ++ ".<locals>." ++ "_law_lets"
/-- the two defs that make closures: code object, its table -/
abbrev tS (K : PySem.W.Frag) : Addr × Addr := He.cT K ("sieve", none)
abbrev tO (K : PySem.W.Frag) : Addr × Addr := He.cT K ("_law_own", none)
abbrev TT (K : PySem.W.Frag) : List NTab := [((tS K).2, fun _ _ => qLets), ((tO K).2, fun _ _ => qOwn)]
structure TabF (K : PySem.W.Frag) (base : Heap) (mg : Str → Option Value) : Prop where
  tbS : TabB base mg (tS K).1 (tS K).2
  tbO : TabB base mg (tO K).1 (tO K).2
  ne : (tS K).2 ≠ (tO K).2
theorem tabs_same {T : List NTab} {H H' : Hp} (t : TabsN T H) (e : Same H H') : TabsN T H' := t.ext e
section
variable {P : Program} {w : World} {K : PySem.W.Frag} {mg : Str → Option Value} {base : Heap}
theorem psB_snoc (ps : List (Str × Str)) (i : Nat) (p : Str × Str) (h : ps[i]? = some p) (ms : List Str) : psB (ps.take (i + 1)) ms = (psB (ps.take i) ms && ((decide (p.2 ∈ ms)) == decide (p.1 = noneS))) := by
  unfold psB
  rw [List.take_add_one, h, List.all_append]
  simp
/-- the dict of a sieve while it is filled: new objects alone, nothing of H changed -/
structure Fill (H H' : Hp) (c d : Addr) (zs : List V) (wl : List WEnt) : Prop where
  same : Same H H'
  cl : H' c = some (.lst zs)
  dc : H' d = some (.dK (kW wl))
  ls : ∀ e ∈ wl, H' e.ad = some (.lst (e.bs.map V.bl))
  nd : (wl.map (·.ad)).Nodup
  nm : (wl.map (·.nm)).Nodup
  new : ∀ e ∈ wl, H e.ad = none
  nc : ∀ e ∈ wl, e.ad ≠ c
  hd : H d = none
theorem valW (z : Str) : ∀ wl : List WEnt, valV (kW wl) (Sum.inr z) = (wl.find? fun e => decide (e.nm = z)).map fun e => V.ref e.ad
  | [] => rfl
  | e :: r => by
    have ih := valW z r
    unfold kW at ih ⊢
    rw [List.map_cons, List.find?_cons]
    by_cases h : e.nm = z
    · rw [valV_pos (p := ((Sum.inr e.nm : Key), V.ref e.ad)) (show (Sum.inr e.nm : Key) = Sum.inr z by rw [h]), decide_eq_true h]
      rfl
    · rw [valV_neg (p := ((Sum.inr e.nm : Key), V.ref e.ad)) (fun q => h (Sum.inr.inj q)), decide_eq_false h]
      exact ih
theorem kW_add (m : Str) (b : Bool) (wl : List WEnt) : kW (addW m b wl) = kW wl := by
  unfold kW addW
  rw [List.map_map]
  refine List.map_congr_left fun e _ => ?_
  show (Sum.inr (if e.nm = m then { e with bs := e.bs ++ [b] } else e : WEnt).nm, V.ref (if e.nm = m then { e with bs := e.bs ++ [b] } else e : WEnt).ad) = _
  by_cases h : e.nm = m
  · rw [if_pos h]
  · rw [if_neg h]
theorem ads_add (m : Str) (b : Bool) (wl : List WEnt) : (addW m b wl).map (·.ad) = wl.map (·.ad) := by
  unfold addW
  rw [List.map_map]
  refine List.map_congr_left fun e _ => ?_
  show (if e.nm = m then { e with bs := e.bs ++ [b] } else e : WEnt).ad = _
  by_cases h : e.nm = m
  · rw [if_pos h]
  · rw [if_neg h]
theorem nms_add (m : Str) (b : Bool) (wl : List WEnt) : (addW m b wl).map (·.nm) = wl.map (·.nm) := by
  unfold addW
  rw [List.map_map]
  refine List.map_congr_left fun e _ => ?_
  show (if e.nm = m then { e with bs := e.bs ++ [b] } else e : WEnt).nm = _
  by_cases h : e.nm = m
  · rw [if_pos h]
  · rw [if_neg h]
theorem find_W {wl : List WEnt} {e : WEnt} : (wl.map (·.nm)).Nodup → e ∈ wl → (wl.find? fun x => decide (x.nm = e.nm)) = some e := by
  induction wl with
  | nil =>
    intro _ h
    cases h
  | cons x r ih =>
    intro nd h
    have nd' := List.nodup_cons.mp nd
    rw [List.find?_cons]
    rcases List.mem_cons.mp h with q | h
    · rw [q, decide_eq_true rfl]
    · have hx : ¬ x.nm = e.nm := fun q => nd'.1 (List.mem_map.mpr ⟨e, h, q.symm⟩)
      rw [decide_eq_false hx]
      exact ih nd'.2 h
theorem ad_inj {wl : List WEnt} : (wl.map (·.ad)).Nodup → ∀ {e x : WEnt}, e ∈ wl → x ∈ wl → e.ad = x.ad → e = x := by
  induction wl with
  | nil =>
    intro _ e x h
    cases h
  | cons y r ih =>
    intro nd e x he hx hq
    have nd' := List.nodup_cons.mp nd
    rcases List.mem_cons.mp he with q1 | h1
    · rcases List.mem_cons.mp hx with q2 | h2
      · rw [q1, q2]
      · refine absurd (List.mem_map.mpr ⟨x, h2, ?_⟩) nd'.1
        rw [← hq, q1]
    · rcases List.mem_cons.mp hx with q2 | h2
      · refine absurd (List.mem_map.mpr ⟨e, h1, ?_⟩) nd'.1
        rw [hq, q2]
      · exact ih nd'.2 h1 h2 hq
/-- the way of a word is appended to its mark's list -/
theorem Fill.app {H H' : Hp} {c d : Addr} {zs : List V} {wl : List WEnt} (F : Fill H H' c d zs wl) {e : WEnt} (he : e ∈ wl) (b : Bool) : Fill H (upd H' e.ad (.lst (e.bs.map V.bl ++ [V.bl b]))) c d zs (addW e.nm b wl) := by
  have ned : e.ad ≠ d := ne_of (F.ls e he) F.dc (by intro z; cases z)
  refine ⟨same_write F.same (F.new e he), ?_, ?_, fun x hx => ?_, by rw [ads_add]; exact F.nd, by rw [nms_add]; exact F.nm, fun x hx => ?_, fun x hx => ?_, F.hd⟩
  · rw [upd_ne (F.nc e he).symm]
    exact F.cl
  · rw [upd_ne ned.symm, kW_add]
    exact F.dc
  · obtain ⟨y, hy, rfl⟩ := List.mem_map.mp hx
    by_cases h : y.nm = e.nm
    · have ey : y = e := by
        have h1 := find_W F.nm hy
        have h2 := find_W F.nm he
        rw [h, h2] at h1
        exact (Option.some.inj h1).symm
      rw [ey, if_pos rfl]
      show upd _ e.ad _ e.ad = _
      rw [upd_same, List.map_append]
      rfl
    · rw [if_neg h]
      rw [upd_ne (fun q => h (by rw [ad_inj F.nd hy he q]))]
      exact F.ls y hy
  · obtain ⟨y, hy, rfl⟩ := List.mem_map.mp hx
    by_cases h : y.nm = e.nm
    · rw [if_pos h]
      exact F.new y hy
    · rw [if_neg h]
      exact F.new y hy
  · obtain ⟨y, hy, rfl⟩ := List.mem_map.mp hx
    by_cases h : y.nm = e.nm
    · rw [if_pos h]
      exact F.nc y hy
    · rw [if_neg h]
      exact F.nc y hy
/-- a mark that is new gets an empty list -/
theorem Fill.add {H H' : Hp} {c d p : Addr} {zs : List V} {wl : List WEnt} (F : Fill H H' c d zs wl) {m : Str} (hm : m ∉ wl.map (·.nm)) (hp : H' p = none) :
    Fill H (upd (upd H' p (.lst [])) d (.dK (putK (kW wl) (Sum.inr m) (.ref p)))) c d zs (wl ++ [⟨m, [], p⟩]) := by
  have npd : d ≠ p := ne_of_none F.dc hp
  have npc : c ≠ p := ne_of_none F.cl hp
  have ncd : c ≠ d := ne_of F.cl F.dc (by intro z; cases z)
  have npe : ∀ e ∈ wl, e.ad ≠ p := fun e he => ne_of_none (F.ls e he) hp
  have ned : ∀ e ∈ wl, e.ad ≠ d := fun e he => ne_of (F.ls e he) F.dc (by intro z; cases z)
  have hno : valV (kW wl) (Sum.inr m) = none := by
    rw [valW]
    have h : (wl.find? fun e => decide (e.nm = m)) = none := by
      rw [List.find?_eq_none]
      intro x hx hz
      exact hm (List.mem_map.mpr ⟨x, hx, of_decide_eq_true hz⟩)
    rw [h]
    rfl
  refine ⟨same_write (same_write F.same (F.same.free hp)) F.hd, ?_, ?_, fun x hx => ?_, ?_, ?_, fun x hx => ?_, fun x hx => ?_, F.hd⟩
  · rw [upd_ne ncd, upd_ne npc]
    exact F.cl
  · rw [upd_same, putK_new _ hno]
    unfold kW
    rw [List.map_append]
    rfl
  · rcases List.mem_append.mp hx with hx | hx
    · rw [upd_ne (ned x hx), upd_ne (npe x hx)]
      exact F.ls x hx
    · rw [List.mem_singleton.mp hx]
      show upd _ d _ p = some (HO.lst [])
      rw [upd_ne npd.symm, upd_same]
  · rw [List.map_append, List.nodup_append]
    refine ⟨F.nd, (by simp), fun y hy y' hy' e => ?_⟩
    rw [List.map_singleton, List.mem_singleton] at hy'
    obtain ⟨z, hz, rfl⟩ := List.mem_map.mp hy
    exact npe z hz (by rw [e, hy'])
  · rw [List.map_append, List.nodup_append]
    refine ⟨F.nm, (by simp), fun y hy y' hy' e => ?_⟩
    rw [List.map_singleton, List.mem_singleton] at hy'
    rw [e, hy'] at hy
    exact hm hy
  · rcases List.mem_append.mp hx with hx | hx
    · exact F.new x hx
    · rw [List.mem_singleton.mp hx]
      exact F.same.free hp
  · rcases List.mem_append.mp hx with hx | hx
    · exact F.nc x hx
    · rw [List.mem_singleton.mp hx]
      exact npc.symm
end
end Th
end D8
section D9
namespace Th
open PySem PySem.Spec PyProof.Rows L2 NdefX LamX Clo
section
variable {P : Program} {w : World} {K : PySem.W.Frag} {mg : Str → Option Value} {base : Heap}
abbrev N_sieve : List Str := ["text", "word", "mark", "lets", "wanted"]
theorem sc_sieve : FnScope N_sieve ["text"] (defScope s_sieve) := ⟨rfl, rfl, rfl, by decide +kernel, rfl, by decide +kernel, by decide +kernel⟩
theorem ndef_sieve : ndefB (defScope s_sieve) (C8.fnScope s_lets) ["wanted"] = true := by decide +kernel
theorem sieve_free : ∀ y ∈ (C8.fnScope s_lets).names, y.2 = .free → (defScope s_sieve).names.lookup y.1 = some .cell := by
  have h : ((C8.fnScope s_lets).names.all fun y => !decide (y.2 = .free) || decide ((defScope s_sieve).names.lookup y.1 = some .cell)) = true := by decide +kernel
  intro y hy e
  have h1 := List.all_eq_true.mp h y hy
  rw [decide_eq_true e] at h1
  exact of_decide_eq_true h1
def sp_sieve (K : PySem.W.Frag) : Sp := fun vs H Q _ => ∃ ps : List (Str × Str), vs = [.str (textP ps)] ∧ ps.length ≤ 2 ∧ (∀ p ∈ ps, PairOk p) ∧ TabsN (TT K) H ∧
  ∀ (H' : Hp) (f : Addr), Ext H H' → TabsN (TT K) H' → SieveAt K H' f ps → Q (.ref f) H'
theorem mem_of_valW {m : Str} {wl : List WEnt} {v : V} (h : valV (kW wl) (Sum.inr m) = some v) : m ∈ wl.map (·.nm) := by
  rw [valW] at h
  cases e : wl.find? fun e => decide (e.nm = m) with
  | none =>
    rw [e] at h
    cases h
  | some x =>
    have h1 := List.find?_some e
    exact List.mem_map.mpr ⟨x, List.mem_of_find?_eq_some e, of_decide_eq_true h1⟩
theorem not_mem_of_valW {m : Str} {wl : List WEnt} (h : valV (kW wl) (Sum.inr m) = none) : m ∉ wl.map (·.nm) := fun hm => by
  rw [valW] at h
  obtain ⟨x, hx, e⟩ := List.mem_map.mp hm
  cases q : wl.find? fun e => decide (e.nm = m) with
  | none =>
    rw [List.find?_eq_none] at q
    exact q x hx (decide_eq_true e)
  | some y =>
    rw [q] at h
    cases h
theorem Fill.more {H H' H'' : Hp} {c d : Addr} {zs : List V} {wl : List WEnt} (F : Fill H H' c d zs wl) (s : Same H' H'') : Fill H H'' c d zs wl :=
  ⟨F.same.trans s, s _ _ F.cl, s _ _ F.dc, fun e he => s _ _ (F.ls e he), F.nd, F.nm, F.new, F.nc, F.hd⟩
theorem ok_sieve (T : Tx K mg) (TF : TabF K base mg) : C8.Cal P w K mg base 3 "sieve" (sp_sieve K) [] := by
  obtain ⟨fd, F⟩ := T.d_sieve
  have CI : C8.Cal P w K mg base 2 "is_mark" (sp_isW 8) [] := ok_ismark T
  have bI := F.bindsN (ps := ["text"]) fun _ _ _ _ _ _ us hl => match us, hl with | [_], _ => rfl
  have kp := F.kp
  obtain ⟨oc, od, dV, kV, doc, pm, an, cdv, ct, osl, rfl, lk, hcd, _, _⟩ := F.ex
  obtain ⟨cc, rfl⟩ := He.codeIn_ref hcd
  have ecc : (tS K).1 = cc := He.codeOf_eq (p := ("sieve", none)) lk rfl
  refine ⟨He.ga K "sieve", _, ["text"], [], fn_ofC (k := 2) (N := N_sieve) (sp := sp_sieve K) lk hcd sc_sieve (fun vs H Q E h => ?_) (fun A outer s H vs Q E hr h => ?_), T.g_sieve, kp, bI, .nil⟩
  · obtain ⟨ps, rfl, _⟩ := h
    rfl
  · obtain ⟨ps, rfl, h2, hP, hT, q⟩ := h
    have hu := hu_of hr
    refine ⟨_, PSsC.nox (pssc_cons (ps_if (pt_not (pt_val (pe_callB call_isi (by rfl) T.z_isinstance (by decide +kernel) (pa_cons (pv 0) (pa_cons (pe_bltn (v := .ty "str") (by rfl) T.z_str (by decide +kernel) rfl) pa_nil))))) (pss_one ps_never) pss_nil)
      (pssc_cons (ps_set (i := 4) sc_sieve.nd rfl (.inr rfl) pe_dnewK)
      (pssc_cut (ps_if (pt_cmpR op_ne (pv 0) pe_str (nomark _)) (pss_one (ps_for PassesOwn.never rfl (pi_list (pe_split (pv 0) pe_str)) (pg_name (i := 1) sc_sieve.nd rfl (.inl rfl))
          (pss_cons (ps_set (i := 2) sc_sieve.nd rfl (.inl rfl) (pv 1))
          (pss_cons (ps_if (pt_val (pe_m1 PySem.F.slot_str_startswith PySem.F.type_str_startswith mt_startswith (pv 1) pe_str)) (pss_one (ps_set (i := 2) sc_sieve.nd rfl (.inl rfl) (pe_slice C8.sl_txt (pv 1) (po_some pe_int) po_none))) pss_nil)
          (pss_cons (ps_if (pt_not (pt_val (C8.pe_c CI hr (by decide) rfl (pa_cons (pv 2) pa_nil)))) (pss_one ps_never) pss_nil)
          (pss_cons (ps_expr (pe_dsetd (pv 4) (pv 2) (pe_lst pa_nil) ⟨rfl, rfl, rfl, rfl⟩))
          (pss_one (ps_expr (pe_bm PySem.F.plainAttrs_list PySem.F.slot_list_append PySem.F.type_list_append mt_append (pe_dget hu (pv 4) (pv 2) (fun _ _ => rfl)) (pa_cons (pe_cmpR op_eq (pv 2) (pv 1) (nomark _)) pa_nil)))))))))) pss_nil)
      (pssc_cons (ps_ndefMS (st := s_lets) (T := TT K) (nm := fun _ _ => qLets) (c := (tS K).1) (P := (tS K).2) (i := 3) rfl TF.tbS (by rw [ecc]; rfl) List.mem_cons_self rfl (fun p hp e => ?hu) (ndef_free ndef_sieve) rfl rfl rfl sc_sieve.nd rfl (.inl rfl) (.inr rfl))
      (pssc_ret (pv 3)))))), ?_⟩
    case hu =>
      rcases List.mem_cons.mp hp with z | z
      · rw [z]
      · rw [List.mem_singleton.mp z] at e
        exact absurd e.symm TF.ne
    refine ⟨_, rfl, _, _, _, _, true, rfl, .ty "str", .base (.str _), kit_ty (by decide +kernel), true, rfl, iteF ?_⟩
    intro d hd
    have s1 : Same H (upd H d (.dK [])) := same_upd hd
    refine ⟨fun σ H' => ∃ y1 y2 wl, σ = [some (.str (textP ps)), y1, y2, none, some (.ref d)] ∧ Same H H' ∧ H' d = some (.dK (kW wl)) ∧ (∀ e ∈ wl, H' e.ad = some (.lst (e.bs.map V.bl))) ∧ ∀ ms, letsB wl ms = psB ps ms, ?_, ?_⟩
    · -- the words
      refine ⟨_, rfl, rfl, _, rfl, ?_⟩
      by_cases hne : ps = []
      · subst hne
        refine iteNS (by rw [text_nil]) ?_
        exact ⟨none, none, [], rfl, s1, upd_same, (fun e he => by cases he), fun ms => rfl⟩
      · have htx := text_ne hne hP
        rw [decide_eq_false (fun z => htx (V.str.inj z))]
        refine iteT ?_
        refine ⟨_, rfl, ⟨_, rfl⟩, _, _, rfl, rfl, rfl, (by have := text_len h2 hP; exact Nat.le_trans (Nat.add_le_add_right this 2) (by decide)), fun c hc => ?_⟩
        rw [text_split hne hP]
        refine ⟨c, rfl, ⟨_, .inl (.inl upd_same)⟩, ?_⟩
        have ncd : d ≠ c := ne_of_none upd_same hc
        refine for_list (K := K) (a := c) (xs := (ps.map wordP).map V.str) (fun i σ H' => ∃ y1 y2 wl, σ = [some (.str (textP ps)), y1, y2, none, some (.ref d)] ∧ Fill H H' c d ((ps.map wordP).map V.str) wl ∧ wl.length ≤ i ∧ (∀ e ∈ wl, e.bs.length ≤ i) ∧ ∀ ms, letsB wl ms = psB (ps.take i) ms)
          ⟨none, none, [], rfl, ⟨s1.trans (same_upd hc), upd_same, by rw [upd_ne ncd, upd_same]; rfl, (fun e he => by cases he), List.nodup_nil, List.nodup_nil, (fun e he => by cases he), (fun e he => by cases he), hd⟩, Nat.le_refl _, (fun e he => by cases he), fun ms => rfl⟩ (fun i σ H' _ ⟨_, _, _, _, FL, _⟩ => .inl (.inl FL.cl)) ?_ ?_
        · rintro i x σ H' hi ⟨y1, y2, wl, rfl, FL, hlen, hbl, hsem⟩
          rw [List.getElem?_map, List.getElem?_map] at hi
          obtain ⟨z, hz, rfl⟩ := Option.map_eq_some_iff.mp hi
          obtain ⟨p, hp, rfl⟩ := Option.map_eq_some_iff.mp hz
          have hpp : p ∈ ps := List.mem_of_getElem? hp
          have PO := hP p hpp
          have hi2 : i < 2 := Nat.lt_of_lt_of_le (List.getElem?_eq_some_iff.mp hp).1 h2
          obtain ⟨sg, m⟩ := p
          have hm : WordS 8 m := PO.wd
          -- the last statement: the way is appended
          have fin : ∀ (wd : Str) (H4 : Hp) (wl4 : List WEnt), Fill H H4 c d ((ps.map wordP).map V.str) wl4 → m ∈ wl4.map (·.nm) → wl4.length ≤ i + 1 → (∀ e ∈ wl4, e.bs.length ≤ i) → (∀ ms, letsB wl4 ms = psB (ps.take i) ms) → decide (V.str m = V.str wd) = decide (sg = noneS) →
              ∃ (e : WEnt), e ∈ wl4 ∧ valV (kW wl4) (Sum.inr m) = some (V.ref e.ad) ∧ H4 e.ad = some (.lst (e.bs.map V.bl)) ∧ (e.bs.map V.bl).length < sizeLine ∧
              ∃ wl5, Fill H (upd H4 e.ad (.lst (e.bs.map V.bl ++ [V.bl (decide (V.str m = V.str wd))]))) c d ((ps.map wordP).map V.str) wl5 ∧ wl5.length ≤ i + 1 ∧ (∀ e ∈ wl5, e.bs.length ≤ i + 1) ∧ ∀ ms, letsB wl5 ms = psB (ps.take (i + 1)) ms := by
            intro wd H4 wl4 F4 hmem hl4 hb4 hs4 hdec
            obtain ⟨e, he, rfl⟩ := List.mem_map.mp hmem
            refine ⟨e, he, ?_, F4.ls e he, ?_, addW e.nm (decide (V.str e.nm = V.str wd)) wl4, F4.app he _, ?_, ?_, fun ms => ?_⟩
            · rw [valW, find_W F4.nm he]
              rfl
            · rw [List.length_map]
              have := hb4 e he
              exact small1000 (by omega)
            · unfold addW
              rw [List.length_map]
              exact hl4
            · intro x hx
              obtain ⟨y, hy, rfl⟩ := List.mem_map.mp hx
              have := hb4 y hy
              by_cases h : y.nm = e.nm
              · rw [if_pos h]
                show (y.bs ++ [_]).length ≤ i + 1
                rw [List.length_append, List.length_singleton]
                omega
              · rw [if_neg h]
                omega
            · rw [letsB_add hmem, hs4, psB_snoc ps i _ hp, hdec]
          have split : (wordP (sg, m) = m ∧ sg = noneS) ∨ (wordP (sg, m) = minusS ++ m ∧ sg = minusS) := by
            rcases PO.sg with e | e
            · have e' : sg = noneS := e
              exact .inl ⟨by rw [e']; exact none_app m, e'⟩
            · have e' : sg = minusS := e
              exact .inr ⟨by rw [e'], e'⟩
          have hmin : minusS ≠ noneS := by decide
          rcases split with ⟨ew, es⟩ | ⟨ew, es⟩
          all_goals
            rw [ew]
            refine ⟨_, rfl, ?_⟩
          · refine ⟨_, rfl, ⟨_, rfl⟩, _, _, rfl, rfl, false, congrArg V.bl (starts_word hm), iteF ?_⟩
            refine ⟨_, rfl, m, rfl, hm, fun H1 s1' => ⟨true, rfl, iteF ?_⟩⟩
            have F1 := FL.more s1'
            refine ⟨_, rfl, d, rfl, .inl ⟨_, .inl F1.dc⟩, _, rfl, Nat.zero_le _, fun p hp' => ?_⟩
            have F2 := F1.more (same_upd (o := .lst []) hp')
            refine ⟨kW wl, Sum.inr m, F2.dc, rfl, by unfold kW; rw [List.length_map]; exact small1000 (by omega), fun v hv => ?_, fun hv => ?_⟩
            · have hmem : m ∈ wl.map (·.nm) := mem_of_valW hv
              obtain ⟨e, he, hval, hls, hsz, wl5, F5, a1, a2, a3⟩ := fin m _ wl F2 hmem (by omega) hbl hsem (by rw [es, decide_eq_true rfl, decide_eq_true rfl])
              exact ⟨_, rfl, _, rfl, d, .ref e.ad, rfl, (by rw [← hval]; exact DGet.k (k := Sum.inr m) F2.dc), .inl ⟨rfl, _, .inl (.inl hls)⟩, _, rfl, _, rfl, rfl, e.ad, _, _, rfl, rfl, hls, hsz, _, _, wl5, rfl, F5, a1, a2, a3⟩
            · have hmem : m ∉ wl.map (·.nm) := not_mem_of_valW hv
              have F3 := F1.add hmem hp'
              obtain ⟨e, he, hval, hls, hsz, wl5, F5, a1, a2, a3⟩ := fin m _ (wl ++ [⟨m, [], p⟩]) F3 (by simp) (by rw [List.length_append, List.length_singleton]; omega) (fun x hx => by
                rcases List.mem_append.mp hx with hx | hx
                · exact hbl x hx
                · rw [List.mem_singleton.mp hx]
                  exact Nat.zero_le _) (fun ms => (letsB_new wl).trans (hsem ms)) (by rw [es, decide_eq_true rfl, decide_eq_true rfl])
              exact ⟨_, rfl, _, rfl, d, .ref e.ad, rfl, (by rw [← hval]; exact DGet.k (k := Sum.inr m) F3.dc), .inl ⟨rfl, _, .inl (.inl hls)⟩, _, rfl, _, rfl, rfl, e.ad, _, _, rfl, rfl, hls, hsz, _, _, wl5, rfl, F5, a1, a2, a3⟩
          · refine ⟨_, rfl, ⟨_, rfl⟩, _, _, rfl, rfl, true, congrArg V.bl (starts_minus m), iteT ?_⟩
            have hml : (minusS ++ m).length ≤ sizeLine := by
              have h9 := (word_len PO).2
              rw [ew] at h9
              have el : (minusS ++ m).length = (minusS ++ m).cps.toList.length := by simp [Str.length]
              rw [el]
              exact Nat.le_trans h9 (by decide)
            refine ⟨_, rfl, 1, rfl, _, rfl, hml, ?_⟩
            rw [cut_minus]
            refine ⟨_, rfl, m, rfl, hm, fun H1 s1' => ⟨true, rfl, iteF ?_⟩⟩
            have F1 := FL.more s1'
            have hdec : decide (V.str m = V.str (minusS ++ m)) = decide (sg = noneS) := by
              rw [es, decide_eq_false (fun z => minus_ne m (V.str.inj z)), decide_eq_false hmin]
            refine ⟨_, rfl, d, rfl, .inl ⟨_, .inl F1.dc⟩, _, rfl, Nat.zero_le _, fun p hp' => ?_⟩
            have F2 := F1.more (same_upd (o := .lst []) hp')
            refine ⟨kW wl, Sum.inr m, F2.dc, rfl, by unfold kW; rw [List.length_map]; exact small1000 (by omega), fun v hv => ?_, fun hv => ?_⟩
            · have hmem : m ∈ wl.map (·.nm) := mem_of_valW hv
              obtain ⟨e, he, hval, hls, hsz, wl5, F5, a1, a2, a3⟩ := fin (minusS ++ m) _ wl F2 hmem (by omega) hbl hsem hdec
              exact ⟨_, rfl, _, rfl, d, .ref e.ad, rfl, (by rw [← hval]; exact DGet.k (k := Sum.inr m) F2.dc), .inl ⟨rfl, _, .inl (.inl hls)⟩, _, rfl, _, rfl, rfl, e.ad, _, _, rfl, rfl, hls, hsz, _, _, wl5, rfl, F5, a1, a2, a3⟩
            · have hmem : m ∉ wl.map (·.nm) := not_mem_of_valW hv
              have F3 := F1.add hmem hp'
              obtain ⟨e, he, hval, hls, hsz, wl5, F5, a1, a2, a3⟩ := fin (minusS ++ m) _ (wl ++ [⟨m, [], p⟩]) F3 (by simp) (by rw [List.length_append, List.length_singleton]; omega) (fun x hx => by
                rcases List.mem_append.mp hx with hx | hx
                · exact hbl x hx
                · rw [List.mem_singleton.mp hx]
                  exact Nat.zero_le _) (fun ms => (letsB_new wl).trans (hsem ms)) hdec
              exact ⟨_, rfl, _, rfl, d, .ref e.ad, rfl, (by rw [← hval]; exact DGet.k (k := Sum.inr m) F3.dc), .inl ⟨rfl, _, .inl (.inl hls)⟩, _, rfl, _, rfl, rfl, e.ad, _, _, rfl, rfl, hls, hsz, _, _, wl5, rfl, F5, a1, a2, a3⟩
        · rintro σ H' ⟨y1, y2, wl, rfl, FL, _, _, hsem⟩
          refine ⟨y1, y2, wl, rfl, FL.same, FL.dc, FL.ls, fun ms => ?_⟩
          rw [hsem, List.length_map, List.length_map, List.take_length]
    · rintro σ H' ⟨y1, y2, wl, rfl, s2, hd2, hl2, hsem⟩
      refine ⟨tabs_same hT s2, fun f c' H1 eN nn T1 nf hf hco => ?_⟩
      refine ⟨_, rfl, fun H'' s3 TR => ?_⟩
      have E1 : Ext H H1 := Ext.trans (Same.ext s2) eN
      have E2 : Ext H1 H'' := Same.ext s3
      refine q H'' f (Ext.trans E1 E2) (tabs_same T1 s3) ⟨⟨_, c', d, wl, clo_of (js := [4]) TR rfl sc_lets sieve_free (s3 _ _ hf) (s3 _ _ hco) rfl rfl, clOk_from, E2.dic (eN _ _ hd2 (fun _ z => by cases z)), fun e he => E2.lst (eN _ _ (hl2 e he) (fun _ z => by cases z)), hsem⟩⟩
end
end Th
end D9
section D10
namespace Th
open PySem PySem.Spec PyProof.Rows L2 NdefX LamX Clo
section
variable {P : Program} {w : World} {K : PySem.W.Frag} {mg : Str → Option Value} {base : Heap}
abbrev fOwn (cl : List (Str × Addr)) (c' : Addr) : NF := NF.of s_ownl "_law_lets" qOwn cl c'
abbrev N_ownl : List Str := ["_law_marks", "_law_heard", "_law_least", "_law_mark_here", "_law_good"]
abbrev fr_own : List Str := ["_law_heard", "_law_least", "_law_mark_here"]
theorem sc_ownl : NScope N_ownl ["_law_marks"] fr_own (C8.fnScope s_ownl) := nscope_by (by decide +kernel)
def ownB (least : Int) (mk : Str) (ms : List Str) : Bool := decide (least ≤ (ms.length : Int)) && !decide (mk ∈ ms)
def sp_ownl (K : PySem.W.Frag) : List (Option V) → Sp := fun ws vs H Q _ => ∃ (hd a : Addr) (least : Int) (mk : Str) (ms : List Str) (old : List V), ws = [some (.ref hd), some (.int least), some (.str mk)] ∧ vs = [.ref a] ∧ H hd = some (.lst old) ∧ old.length < 1000 ∧
  H a = some (.lst (ms.map V.str)) ∧ ms.length < 1000 ∧ a ≠ hd ∧
  ∀ (p : Addr) (H' : Hp), H p = none → (∀ b o, b ≠ hd → b ≠ a → H b = some o → H' b = some o) → H' hd = some (.lst (old ++ [.ref p])) → H' p = some (.lst (ms.map V.str)) → Q (.bl (ownB least mk ms)) H'
theorem ok_ownl (T : Tx K mg) {f : Addr} {cl : List (Str × Addr)} {c' : Addr} : NOk P w K mg base C8.CX0 1 f (fOwn cl c') ["_law_marks"] fr_own (sp_ownl K) := by
  refine nok_of sc_ownl (fun doc pm ctv us hl => match us, hl with | [_], _ => rfl) (fun ws vs H Q E h => ?_) (fun A outer s H vs ws Q E hr hf hc hl h => ?_)
  · obtain ⟨hd, a, least, mk, ms, old, _, rfl, _⟩ := h
    rfl
  · obtain ⟨hd, a, least, mk, ms, old, rfl, rfl, hhd, hold, ha, hms, hne, q⟩ := h
    refine ⟨_, PSs.nox (pss_cons (ps_expr (pe_bm PySem.F.plainAttrs_list PySem.F.slot_list_append PySem.F.type_list_append mt_append (pv 1) (pa_cons (pe_callTy call_list_of (by rfl) T.z_list (by decide +kernel) (pa_cons (pv 0) pa_nil)) pa_nil)))
      (pss_cons (ps_set (i := 4) sc_ownl.nd rfl (.inl rfl) (pe_and (pe_cmpR op_ge (pe_callB call_len_seq (by rfl) T.z_len PySem.boot_len (pa_cons (pv 0) pa_nil)) (pv 2) (nomark _)) (pe_one (pe_cmpR op_notIn_seq (pv 3) (pv 0) rfl))))
      (pss_cons (ps_expr (pe_bm PySem.F.plainAttrs_list PySem.F.slot_list_append PySem.F.type_list_append mt_append (pv 0) (pa_cons pe_str pa_nil)))
      (pss_one (ps_ret (pv 4)))))), ?_⟩
    refine ⟨_, rfl, .inl ⟨rfl, _, .inl (.inl hhd)⟩, _, rfl, a, _, rfl, .inl (.inl (.inl ha)), fun p hp => ?_⟩
    have nhp : hd ≠ p := ne_of_none hhd hp
    have nap : a ≠ p := ne_of_none ha hp
    refine ⟨hd, old, _, rfl, rfl, (by rw [upd_ne nhp]; exact hhd), small1000 (by omega), ?_⟩
    have h1a : (upd (upd H p (.lst (ms.map V.str))) hd (.lst (old ++ [.ref p]))) a = some (.lst (ms.map V.str)) := by
      rw [upd_ne hne, upd_ne nap]
      exact ha
    refine ⟨_, rfl, a, _, rfl, .inl (.inl (.inl h1a)), _, rfl, _, _, rfl, rfl, _, rfl, ?_⟩
    have fin : ∀ bb : Bool, bb = ownB least mk ms → Q (.bl bb) (upd (upd (upd H p (.lst (ms.map V.str))) hd (.lst (old ++ [.ref p]))) a (.lst (ms.map V.str ++ [.str "x"]))) := fun bb e => by
      rw [e]
      refine q p _ hp (fun b o n1 n2 e => ?_) ?_ ?_
      · rw [upd_ne n2, upd_ne n1, upd_ne (ne_of_none e hp)]
        exact e
      · rw [upd_ne hne.symm, upd_same]
      · rw [upd_ne nap.symm, upd_ne nhp.symm, upd_same]
    have app : ∀ bb : Bool, bb = ownB least mk ms → tSeq (tDrop (tBM K "list" rAppend (tVar 0) (tCons (tC (.str "x")) tNil))) (tRet (tVar 4)) { nx := fun _ H' => Q .non H', rt := Q } [some (.ref a), some (.ref hd), some (.int least), some (.str mk), some (.bl bb)] (upd (upd H p (.lst (ms.map V.str))) hd (.lst (old ++ [.ref p]))) := fun bb e => by
      exact ⟨_, rfl, .inl ⟨rfl, _, .inl (.inl h1a)⟩, a, _, _, rfl, rfl, h1a, (by rw [List.length_map]; exact small1000 (by omega)), _, rfl, fin bb e⟩
    by_cases hc1 : least ≤ (ms.length : Int)
    · have hd1 : decide (least ≤ ((ms.map V.str).length : Int)) = true := decide_eq_true (by rw [List.length_map]; exact hc1)
      rw [hd1]
      refine iteT ?_
      refine ⟨_, rfl, _, rfl, a, _, rfl, .inl (.inl (.inl h1a)), rfl, flat_strs ms, ?_⟩
      rw [if_pos rfl, inV_str]
      exact app _ (by unfold ownB; rw [decide_eq_true hc1, Bool.true_and])
    · have hd1 : decide (least ≤ ((ms.map V.str).length : Int)) = false := decide_eq_false (by rw [List.length_map]; exact hc1)
      rw [hd1]
      refine iteF ?_
      exact app _ (by unfold ownB; rw [decide_eq_false hc1, Bool.false_and])
/-- the law's own sieve stands at f -/
structure OwnAt (H : Hp) (f hd : Addr) (least : Int) (mk : Str) : Prop where
  ex : ∃ (cl : List (Str × Addr)) (c' : Addr), CloAt H f (fOwn cl c') fr_own [.ref hd, .int least, .str mk] ∧ ClOk cl
theorem OwnAt.keep {H H' : Hp} {f hd : Addr} {least : Int} {mk : Str} (S : OwnAt H f hd least mk) (e : ∀ b o, H b = some o → (∀ xs, o ≠ .lst xs) → (∀ ps, o ≠ .tbl ps) → H' b = some o) : OwnAt H' f hd least mk := by
  obtain ⟨cl, c', C, ok⟩ := S.ex
  exact ⟨cl, c', ⟨e _ _ C.fn (fun xs z => by unfold FnO at z; cases z) fnO_ne, e _ _ C.co (fun xs z => by unfold CodeO at z; cases z) codeO_ne, C.len, C.all, C.inj, fun i y h => by
    obtain ⟨c, v, h1, h2, h3⟩ := C.has i y h
    exact ⟨c, v, h1, h2, e _ _ h3 (fun xs z => by unfold CellO at z; cases z) cellO_ne⟩⟩, ok⟩
theorem OwnAt.ext {H H' : Hp} {f hd : Addr} {least : Int} {mk : Str} (S : OwnAt H f hd least mk) (e : Ext H H') : OwnAt H' f hd least mk := S.keep fun b o h _ n => e b o h n
def spc_own : Addr → Sp := fun f vs H Q _ => ∃ (hd a : Addr) (least : Int) (mk : Str) (ms : List Str) (old : List V), vs = [.ref a] ∧ OwnAt H f hd least mk ∧ H hd = some (.lst old) ∧ old.length < 1000 ∧ H a = some (.lst (ms.map V.str)) ∧ ms.length < 1000 ∧ a ≠ hd ∧
  ∀ (p : Addr) (H' : Hp), H p = none → (∀ b o, b ≠ hd → b ≠ a → H b = some o → H' b = some o) → H' hd = some (.lst (old ++ [.ref p])) → H' p = some (.lst (ms.map V.str)) → Q (.bl (ownB least mk ms)) H'
theorem call_own (T : Tx K mg) : CallOk P w K mg base 1 spc_own := by
  refine ⟨fun f vs H Q E h => ?_, fun f A outer s H us vs Q hr e0 r h => ?_⟩
  · obtain ⟨hd, a, least, mk, ms, old, _, S, _⟩ := h
    obtain ⟨cl, c', C, _⟩ := S.ex
    exact ⟨_, C.fn⟩
  · obtain ⟨hd, a, least, mk, ms, old, rfl, S, hhd, hold, ha, hms, hne, q⟩ := h
    obtain ⟨cl, c', C, ok⟩ := S.ex
    have oh := clo_out C ok hhd (fun v z => by cases z)
    have oa := clo_out C ok ha (fun v z => by cases z)
    refine run_clo (ok_ownl T (K := K)) hr e0 C ok r ⟨hd, a, least, mk, ms, old, rfl, rfl, ?_, hold, ?_, hms, hne, fun p H' hp kp h1 h2 hcl => ?_⟩
    · rw [dropC_ne oh]
      exact hhd
    · rw [dropC_ne oa]
      exact ha
    · have op : p ∉ (fOwn cl c').cl.map (·.2) := fun z => by
        rw [hcl p z] at h2
        cases h2
      refine q p _ (by rw [dropC_ne op] at hp; exact hp) (fun b o n1 n2 e => ?_) (by rw [addC_ne oh]; exact h1) (by rw [addC_ne op]; exact h2)
      by_cases hb : b ∈ (fOwn cl c').cl.map (·.2)
      · exact (if_pos hb).trans e
      · rw [addC_ne hb]
        exact kp b o n1 n2 (by rw [dropC_ne hb]; exact e)
/-! ### _law_own -/
abbrev N_own : List Str := ["_law_mark_here", "_law_least", "_law_heard", "_law_lets"]
theorem sc_own : FnScope N_own ["_law_mark_here", "_law_least", "_law_heard"] (defScope s_own) := ⟨rfl, rfl, rfl, by decide +kernel, rfl, by decide +kernel, by decide +kernel⟩
theorem ndef_own : ndefB (defScope s_own) (C8.fnScope s_ownl) fr_own = true := by decide +kernel
theorem own_free : ∀ y ∈ (C8.fnScope s_ownl).names, y.2 = .free → (defScope s_own).names.lookup y.1 = some .cell := by
  have h : ((C8.fnScope s_ownl).names.all fun y => !decide (y.2 = .free) || decide ((defScope s_own).names.lookup y.1 = some .cell)) = true := by decide +kernel
  intro y hy e
  have h1 := List.all_eq_true.mp h y hy
  rw [decide_eq_true e] at h1
  exact of_decide_eq_true h1
def sp_own (K : PySem.W.Frag) : Sp := fun vs H Q _ => ∃ (hd : Addr) (least : Int) (mk : Str), vs = [.str mk, .int least, .ref hd] ∧ TabsN (TT K) H ∧ ∀ (H' : Hp) (f : Addr), Ext H H' → TabsN (TT K) H' → H f = none → OwnAt H' f hd least mk → Q (.ref f) H'
theorem ok_own (T : Tx K mg) (TF : TabF K base mg) : C8.Cal P w K mg base 1 "_law_own" (sp_own K) [] := by
  obtain ⟨fd, F⟩ := T.d_law_own
  have bI := F.bindsN (ps := ["_law_mark_here", "_law_least", "_law_heard"]) fun _ _ _ _ _ _ us hl => match us, hl with | [_, _, _], _ => rfl
  have kp := F.kp
  obtain ⟨oc, od, dV, kV, doc, pm, an, cdv, ct, osl, rfl, lk, hcd, _, _⟩ := F.ex
  obtain ⟨cc, rfl⟩ := He.codeIn_ref hcd
  have ecc : (tO K).1 = cc := He.codeOf_eq (p := ("_law_own", none)) lk rfl
  refine ⟨He.ga K "_law_own", _, ["_law_mark_here", "_law_least", "_law_heard"], [], fn_ofC (k := 0) (N := N_own) (sp := sp_own K) lk hcd sc_own (fun vs H Q E h => ?_) (fun A outer s H vs Q E hr h => ?_), T.g_law_own, kp, bI, .nil⟩
  · obtain ⟨hd, least, mk, rfl, _⟩ := h
    rfl
  · obtain ⟨hd, least, mk, rfl, hT, q⟩ := h
    refine ⟨_, PSsC.nox (pssc_cons (ps_ndefMS (st := s_ownl) (T := TT K) (nm := fun _ _ => qOwn) (c := (tO K).1) (P := (tO K).2) (i := 3) rfl TF.tbO (by rw [ecc]; rfl) (List.mem_cons_of_mem _ List.mem_cons_self) rfl (fun p hp e => ?hu) (ndef_free ndef_own) rfl rfl rfl sc_own.nd rfl (.inl rfl) (.inr rfl))
      (pssc_ret (pv 3))), ?_⟩
    case hu =>
      rcases List.mem_cons.mp hp with z | z
      · rw [z] at e
        exact absurd e TF.ne
      · rw [List.mem_singleton.mp z]
    refine ⟨hT, fun f c' H1 eN nn T1 nf hf hco => ?_⟩
    refine ⟨_, rfl, fun H'' s3 TR => ?_⟩
    exact q H'' f (Ext.trans eN (Same.ext s3)) (tabs_same T1 s3) nf ⟨_, c', clo_of (js := [2, 1, 0]) TR rfl sc_ownl own_free (s3 _ _ hf) (s3 _ _ hco) rfl rfl, clOk_from⟩
end
end Th
end D10
section D11
namespace Th
open PySem PySem.Spec PyProof.Rows L2 NdefX LamX Clo
theorem nodup_of_map {es : List Ent} (h : (es.map (·.nm)).Nodup) : es.Nodup := by
  unfold List.Nodup at h ⊢
  rw [List.pairwise_map] at h
  exact h.imp fun n e => n (by rw [e])
theorem ent_of_nm {es : List Ent} (h : (es.map (·.nm)).Nodup) {e x : Ent} (he : e ∈ es) (hx : x ∈ es) (q : e.nm = x.nm) : e = x := by
  have h1 := find_ent h he
  have h2 := find_ent h hx
  rw [q, h2] at h1
  exact (Option.some.inj h1).symm
theorem ents_perm {es l : List Ent} (nd : (es.map (·.nm)).Nodup) (hl : ∀ e ∈ l, e ∈ es) (hp : (l.map (·.nm)).Perm (es.map (·.nm))) : l.Perm es := by
  have ndl : (l.map (·.nm)).Nodup := hp.symm.nodup nd
  refine (List.perm_ext_iff_of_nodup (nodup_of_map ndl) (nodup_of_map nd)).mpr fun e => ⟨hl e, fun he => ?_⟩
  have h1 : e.nm ∈ l.map (·.nm) := hp.symm.subset (List.mem_map.mpr ⟨e, he, rfl⟩)
  obtain ⟨x, hx, q⟩ := List.mem_map.mp h1
  rw [ent_of_nm nd he (hl x hx) q.symm]
  exact hx
section
variable {P : Program} {w : World} {K : PySem.W.Frag} {mg : Str → Option Value} {base : Heap}
abbrev N_ch : List Str := ["self", "lets", "name"]
theorem sc_ch : FnScope N_ch ["self", "lets"] (defScope s_chosen) := ⟨rfl, rfl, rfl, by decide +kernel, rfl, by decide +kernel, by decide +kernel⟩
def sp_chosen (K : PySem.W.Frag) (spc : Addr → Sp) : Sp := fun vs H Q _ => ∃ (b dR dS f : Addr) (es : List Ent) (good : Ent → Bool) (Foot : Addr → Prop) (J : Addr → List Ent → Hp → Prop),
  vs = [.ref b, .ref f] ∧ es.length ≤ 8 ∧ BookAt K H b dR dS es ∧
  (∀ D H1, Same H H1 → H D = none → J D [] H1) ∧
  (∀ D l H1 H2, J D l H1 → (∀ c o, c ≠ D → H1 c = some o → H2 c = some o) → J D l H2) ∧
  (∀ D l H1, J D l H1 → BookAt K H1 b dR dS es ∧ ∃ F, H1 f = some (FnO f F)) ∧
  (∀ D l e H1 p (xs : List V), J D l H1 → e ∈ es → H1 p = none → H1 D = some (.lst xs) → l.length < 8 → spc f [.ref p] (upd H1 p (.lst (e.ms.map V.str))) (fun v H2 => v = .bl (good e) ∧ J D (l ++ [e]) H2 ∧ (∀ c o, c ≠ p → ¬ Foot c → H1 c = some o → H2 c = some o)) C8.E0) ∧
  (∀ c, Foot c → H c ≠ none) ∧
  ∀ (H' : Hp) (D : Addr) (l : List Ent), l.Perm es → sortedS (l.map (·.nm)) = true → J D l H' → H D = none → H' D = some (.lst ((l.filter good).map fun e => V.str e.nm)) → (∀ c o, ¬ Foot c → H c = some o → H' c = some o) → Q (.ref D) H'
theorem ok_chosen (T : Tx K mg) {spc : Addr → Sp} (G : CallOk P w K mg base 1 spc) (mono : ∀ (f : Addr) (vs : List V) (H : Hp) (Q Q' : VK), (∀ v H', Q v H' → Q' v H') → spc f vs H Q C8.E0 → spc f vs H Q' C8.E0) : C8.Met P w K mg base 3 (cBook K) "chosen" (sp_chosen K spc) [] := by
  obtain ⟨fd, F⟩ := T.d_Book_chosen
  have CN : C8.Met P w K mg base 1 (cBook K) "names" (sp_names K) [] := ok_names T
  have CM : C8.Met P w K mg base 2 (cBook K) "marks" (sp_marks K) [] := ok_marks T
  refine met_of T.c_Book T.m_Book_chosen F (F.bindsN (ps := ["self", "lets"]) fun _ _ _ _ _ _ us hl => match us, hl with | [_, _], _ => rfl) .nil sc_ch (fun vs H Q E h => ?_) (fun cdv A outer s H vs Q E hr h => ?_)
  · obtain ⟨b, dR, dS, f, es, good, Foot, J, rfl, _⟩ := h
    rfl
  · obtain ⟨b, dR, dS, f, es, good, Foot, J, rfl, h8, B, j0, jext, jb, jcall, hfoot, q⟩ := h
    obtain ⟨dx, r, lim, wd, day, h1, _, _⟩ := B.ex
    refine ⟨_, pss_one (ps_ret (pe_lc (own := [("name", 2)]) (g := gName 2) rfl sc_ch.nd (pi_list (C8.pe_mt0 CN hr (by decide) (pv 0))) (blkOk_by (N := N_ch) (sc := defScope s_chosen) (by decide +kernel))
        (fun _ _ _ _ _ => pg_name (i := 2) sc_ch.nd rfl (Or.inl rfl))
        (fun _ _ _ _ _ => pts_one (pt_val (pe_callc (i := 1) G (hr.mono (by decide)) rfl (.inr (.inl rfl)) (pa_cons (C8.pe_mt CM hr (by decide) (pv 0) (pa_cons (pv 2) pa_nil)) pa_nil))))
        (fun _ _ _ _ _ => pv 2))), ?_⟩
    refine ⟨_, rfl, b, dx, _, rfl, h1, rfl, b, dR, dS, es, rfl, B, h8, fun c ns hperm hsort hc => ?_⟩
    have s1 : Same H (upd H c (.lst (ns.map V.str))) := same_upd hc
    refine ⟨c, rfl, ⟨_, .inl (.inl upd_same)⟩, fun D hD => ?_⟩
    have s2 : Same H (upd (upd H c (.lst (ns.map V.str))) D (.lst [])) := s1.trans (same_upd hD)
    have ncD : c ≠ D := ne_of_none upd_same hD
    have hDH : H D = none := s1.free hD
    have fD : ¬ Foot D := fun z => hfoot D z hDH
    have fc : ¬ Foot c := fun z => hfoot c z hc
    have hlen : ns.length ≤ 8 := by
      rw [hperm.length_eq, List.length_map]
      exact h8
    refine lc_list (K := K) (a := c) (xs := ns.map V.str) (fun i H' => ∃ l : List Ent, l.length = i ∧ l.map (·.nm) = ns.take i ∧ (∀ e ∈ l, e ∈ es) ∧ J D l H' ∧ H' D = some (.lst ((l.filter good).map fun e => V.str e.nm)) ∧ H' c = some (.lst (ns.map V.str)) ∧ (∀ x o, ¬ Foot x → H x = some o → H' x = some o))
      ⟨[], rfl, rfl, (fun e he => by cases he), j0 D _ s2 hDH, upd_same, (by rw [upd_ne ncD, upd_same]), fun x o _ e => s2 x o e⟩ (fun i H' _ ⟨_, _, _, _, _, _, e, _⟩ => .inl (.inl e)) ?_ ?_
    · rintro i x H' hi ⟨l, hl1, hl2, hl3, hJ, hHD, hHc, hkp⟩
      rw [List.getElem?_map] at hi
      obtain ⟨z, hz, rfl⟩ := Option.map_eq_some_iff.mp hi
      have hzm : z ∈ es.map (·.nm) := hperm.subset (List.mem_of_getElem? hz)
      obtain ⟨e, he, rfl⟩ := List.mem_map.mp hzm
      have hil : i < ns.length := (List.getElem?_eq_some_iff.mp hz).1
      obtain ⟨B', F', hF'⟩ := jb D l H' hJ
      obtain ⟨dx', r', lim', wd', day', h1', _, _⟩ := B'.ex
      refine ⟨rfl, f, rfl, ⟨F', hF'⟩, ?_⟩
      refine ⟨_, rfl, b, dx', _, rfl, h1', rfl, _, rfl, b, dR, dS, es, e, rfl, B', he, fun p hp => ?_⟩
      refine mono _ _ _ _ _ ?_ (jcall D l e H' p _ hJ he hp hHD (by omega))
      rintro v H2 ⟨rfl, hJ2, hk2⟩
      have npD : D ≠ p := ne_of_none hHD hp
      have npc : c ≠ p := ne_of_none hHc hp
      have hD2 := hk2 D _ npD fD hHD
      have hc2 := hk2 c _ npc fc hHc
      have hkp2 : ∀ x o, ¬ Foot x → H x = some o → H2 x = some o := fun x o n ex => hk2 x o (ne_of_none (hkp x o n ex) hp) n (hkp x o n ex)
      have hl2' : (l ++ [e]).map (·.nm) = ns.take (i + 1) := by
        rw [List.map_append, hl2, List.take_add_one, hz]
        rfl
      have hl3' : ∀ y ∈ l ++ [e], y ∈ es := fun y hy => by
        rcases List.mem_append.mp hy with hy | hy
        · exact hl3 y hy
        · rw [List.mem_singleton.mp hy]
          exact he
      refine ⟨good e, rfl, ?_⟩
      cases hg : good e with
      | true =>
        refine iteT ?_
        refine ⟨_, rfl, _, hD2, ?_, l ++ [e], by rw [List.length_append, List.length_singleton, hl1], hl2', hl3', jext D _ _ _ hJ2 (fun y o n ey => by rw [upd_ne n]; exact ey), ?_, by rw [upd_ne ncD]; exact hc2, fun y o n ey => ?_⟩
        · rw [List.length_map]
          have := List.length_filter_le good l
          exact small1000 (by omega)
        · rw [upd_same, List.filter_append, List.map_append]
          have e1 : [e].filter good = [e] := by simp [hg]
          rw [e1]
          rfl
        · rw [upd_ne (ne_of_none ey hDH)]
          exact hkp2 y o n ey
      | false =>
        refine iteF ?_
        refine ⟨l ++ [e], by rw [List.length_append, List.length_singleton, hl1], hl2', hl3', hJ2, ?_, hc2, hkp2⟩
        rw [hD2, List.filter_append]
        have e1 : [e].filter good = [] := by simp [hg]
        rw [e1, List.append_nil]
    · rintro H' ⟨l, hl1, hl2, hl3, hJ, hHD, hHc, hkp⟩
      rw [List.length_map, List.take_length] at hl2
      have hp2 : (l.map (·.nm)).Perm (es.map (·.nm)) := by
        rw [hl2]
        exact hperm
      exact q H' D l (ents_perm B.nd hl3 hp2) (by rw [hl2]; exact hsort) hJ hDH hHD hkp
end
end Th
end D11
section D12
namespace Th
open PySem PySem.Spec PyProof.Rows L2 NdefX LamX Clo
section
variable {P : Program} {w : World} {K : PySem.W.Frag} {mg : Str → Option Value} {base : Heap}
theorem met_imp {k : Nat} {C : Addr} {m : Str} {sp sp' : Sp} {dvs : List V} (M : C8.Met P w K mg base k C m sp dvs) (h : ∀ vs H Q E, sp' vs H Q E → sp vs H Q E) : C8.Met P w K mg base k C m sp' dvs := by
  obtain ⟨f, fd, ps, ds, c, me, F, b, d⟩ := M.ex
  exact ⟨f, fd, ps, ds, c, me, F.imp h, b, d⟩
/-! ### chosen, by a sieve of a text -/
def sp_chS (K : PySem.W.Frag) : Sp := fun vs H Q _ => ∃ (b dR dS f : Addr) (es : List Ent) (ps : List (Str × Str)), vs = [.ref b, .ref f] ∧ es.length ≤ 8 ∧ BookAt K H b dR dS es ∧ SieveAt K H f ps ∧
  ∀ (H' : Hp) (D : Addr) (l : List Ent), l.Perm es → sortedS (l.map (·.nm)) = true → Same H H' → H D = none → H' D = some (.lst ((l.filter fun e => psB ps e.ms).map fun e => V.str e.nm)) → Q (.ref D) H'
theorem ok_chS (T : Tx K mg) : C8.Met P w K mg base 3 (cBook K) "chosen" (sp_chS K) [] := by
  refine met_imp (ok_chosen T (call_sieve (K := K)) (fun f vs H Q Q' hq h => ?_)) (fun vs H Q E h => ?_)
  · obtain ⟨ps, a, ms, e, S, ha, q⟩ := h
    exact ⟨ps, a, ms, e, S, ha, fun H' s => hq _ _ (q H' s)⟩
  · obtain ⟨b, dR, dS, f, es, ps, rfl, h8, B, S, q⟩ := h
    refine ⟨b, dR, dS, f, es, fun e => psB ps e.ms, fun _ => False, fun D l H1 => H D = none ∧ Same H H1, rfl, h8, B, fun D H1 s hD => ⟨hD, s⟩, fun D l H1 H2 hJ k => ⟨hJ.1, fun c o e => k c o (ne_of_none e hJ.1) (hJ.2 c o e)⟩, fun D l H1 hJ => ⟨B.ext (Same.ext hJ.2), ?_⟩, fun D l e H1 p xs hJ he hp hD hl => ?_, fun c z => z.elim, fun H' D l hp hs hJ hD hH hk => q H' D l hp hs hJ.2 hD hH⟩
    · obtain ⟨cl, c', d, wl, C, _⟩ := (S.ext (Same.ext hJ.2)).ex
      exact ⟨_, C.fn⟩
    · have s2 : Same H (upd H1 p (.lst (e.ms.map V.str))) := Same.trans hJ.2 (same_upd hp)
      refine ⟨ps, p, e.ms, rfl, S.ext (Same.ext s2), .inl (.inl upd_same), fun H' s3 => ⟨rfl, ⟨hJ.1, s2.trans s3⟩, fun c o n _ ec => s3 c o (by rw [upd_ne n]; exact ec)⟩⟩
/-! ### chosen, by the law's own sieve -/
/-- copies of the marks of l, in their order -/
def CopyAt (H : Hp) : List Addr → List Ent → Prop
  | [], [] => True
  | c :: cs, e :: l => H c = some (.lst (e.ms.map V.str)) ∧ CopyAt H cs l
  | _, _ => False
theorem CopyAt.keep {H H' : Hp} : ∀ {cs : List Addr} {l : List Ent}, CopyAt H cs l → (∀ c ∈ cs, ∀ o, H c = some o → H' c = some o) → CopyAt H' cs l
  | [], [], _, _ => True.intro
  | [], _ :: _, h, _ => h.elim
  | _ :: _, [], h, _ => h.elim
  | c :: cs, e :: l, h, k => ⟨k c List.mem_cons_self _ h.1, CopyAt.keep h.2 fun x hx => k x (List.mem_cons_of_mem _ hx)⟩
theorem CopyAt.snoc {H : Hp} {c : Addr} {e : Ent} : ∀ {cs : List Addr} {l : List Ent}, CopyAt H cs l → H c = some (.lst (e.ms.map V.str)) → CopyAt H (cs ++ [c]) (l ++ [e])
  | [], [], _, h => ⟨h, True.intro⟩
  | [], _ :: _, h, _ => h.elim
  | _ :: _, [], h, _ => h.elim
  | x :: cs, y :: l, h, hc => ⟨h.1, CopyAt.snoc h.2 hc⟩
theorem CopyAt.len {H : Hp} : ∀ {cs : List Addr} {l : List Ent}, CopyAt H cs l → cs.length = l.length
  | [], [], _ => rfl
  | [], _ :: _, h => h.elim
  | _ :: _, [], h => h.elim
  | x :: cs, y :: l, h => congrArg (· + 1) (CopyAt.len h.2)
theorem CopyAt.get {H : Hp} : ∀ {cs : List Addr} {l : List Ent}, CopyAt H cs l → ∀ {c : Addr}, c ∈ cs → ∃ e ∈ l, H c = some (.lst (e.ms.map V.str))
  | [], [], _, c, hc => by cases hc
  | [], _ :: _, h, _, _ => h.elim
  | _ :: _, [], h, _, _ => h.elim
  | x :: cs, y :: l, h, c, hc => by
    rcases List.mem_cons.mp hc with e | hc
    · exact ⟨y, List.mem_cons_self, by rw [e]; exact h.1⟩
    · obtain ⟨e, he, hx⟩ := CopyAt.get h.2 hc
      exact ⟨e, List.mem_cons_of_mem _ he, hx⟩
theorem CopyAt.of {H : Hp} : ∀ {cs : List Addr} {l : List Ent}, CopyAt H cs l → ∀ {e : Ent}, e ∈ l → ∃ c ∈ cs, H c = some (.lst (e.ms.map V.str))
  | [], [], _, c, hc => by cases hc
  | [], _ :: _, h, _, _ => h.elim
  | _ :: _, [], h, _, _ => h.elim
  | x :: cs, y :: l, h, e, he => by
    rcases List.mem_cons.mp he with q | he
    · exact ⟨x, List.mem_cons_self, by rw [q]; exact h.1⟩
    · obtain ⟨c, hc, hx⟩ := CopyAt.of h.2 he
      exact ⟨c, List.mem_cons_of_mem _ hc, hx⟩
def sp_chO (K : PySem.W.Frag) : Sp := fun vs H Q _ => ∃ (b dR dS f hd : Addr) (es : List Ent) (least : Int) (mk : Str) (old : List V) (H0 : Hp), vs = [.ref b, .ref f] ∧ es.length ≤ 8 ∧ BookAt K H0 b dR dS es ∧ H0 hd = none ∧ Ext H0 H ∧ OwnAt H f hd least mk ∧
  H hd = some (.lst old) ∧ old.length ≤ 100 ∧ (∀ e ∈ es, e.ms.length ≤ 8) ∧
  ∀ (H' : Hp) (D : Addr) (l : List Ent) (cs : List Addr), l.Perm es → sortedS (l.map (·.nm)) = true → (∀ c o, c ≠ hd → H c = some o → H' c = some o) → H D = none → H' D = some (.lst ((l.filter fun e => ownB least mk e.ms).map fun e => V.str e.nm)) →
    H' hd = some (.lst (old ++ cs.map V.ref)) → hd ∉ cs → D ∉ cs → CopyAt H' cs l → Q (.ref D) H'
theorem ok_chO (T : Tx K mg) : C8.Met P w K mg base 3 (cBook K) "chosen" (sp_chO K) [] := by
  refine met_imp (ok_chosen T (call_own T) (fun f vs H Q Q' hq h => ?_)) (fun vs H Q E h => ?_)
  · obtain ⟨hd, a, least, mk, ms, old, e, S, h1, h2, h3, h4, h5, q⟩ := h
    exact ⟨hd, a, least, mk, ms, old, e, S, h1, h2, h3, h4, h5, fun p H' a1 a2 a3 a4 => hq _ _ (q p H' a1 a2 a3 a4)⟩
  · obtain ⟨b, dR, dS, f, hd, es, least, mk, old, H0, rfl, h8, B0, n0, E0, O, hhd, hold, hms, q⟩ := h
    have ext1 : ∀ H1 : Hp, (∀ c o, c ≠ hd → H c = some o → H1 c = some o) → Ext H0 H1 := fun H1 k c o e n => k c o (ne_of_none e n0) (E0 c o e n)
    have own1 : ∀ H1 : Hp, (∀ c o, c ≠ hd → H c = some o → H1 c = some o) → OwnAt H1 f hd least mk := fun H1 k => O.keep fun c o e n1 n2 => k c o (fun z => by rw [z, hhd] at e; exact n1 _ (Option.some.inj e).symm) e
    refine ⟨b, dR, dS, f, es, fun e => ownB least mk e.ms, fun c => c = hd, fun D l H1 => H D = none ∧ (∀ c o, c ≠ hd → H c = some o → H1 c = some o) ∧ ∃ cs : List Addr, H1 hd = some (.lst (old ++ cs.map V.ref)) ∧ hd ∉ cs ∧ D ∉ cs ∧ CopyAt H1 cs l, rfl, h8, B0.ext E0, fun D H1 s hD => ⟨hD, fun c o _ e => s c o e, [], ?_, by simp, by simp, True.intro⟩, fun D l H1 H2 hJ k => ?_, fun D l H1 hJ => ⟨B0.ext (ext1 H1 hJ.2.1), ?_⟩, fun D l e H1 p xs hJ he hp hD hl => ?_, fun c z => (by rw [show c = hd from z, hhd]; exact (fun q => by cases q)), fun H' D l hp hs hJ hD hH hk => ?_⟩
    · rw [List.map_nil, List.append_nil]
      exact s _ _ hhd
    · obtain ⟨hDn, k1, cs, c1, c2, c3, c4⟩ := hJ
      have nhD : hd ≠ D := ne_of_none hhd hDn
      exact ⟨hDn, fun c o n e => k c o (ne_of_none e hDn) (k1 c o n e), cs, k _ _ nhD c1, c2, c3, c4.keep fun c hc o e => k c o (fun z => c3 (by rw [← z]; exact hc)) e⟩
    · obtain ⟨cl, c', C, _⟩ := (own1 H1 hJ.2.1).ex
      exact ⟨_, C.fn⟩
    · obtain ⟨hDn, k1, cs, c1, c2, c3, c4⟩ := hJ
      have nhp : hd ≠ p := ne_of_none c1 hp
      have k2 : ∀ c o, c ≠ hd → H c = some o → (upd H1 p (.lst (e.ms.map V.str))) c = some o := fun c o n ec => by
        have e1 := k1 c o n ec
        rw [upd_ne (ne_of_none e1 hp)]
        exact e1
      have lcs := c4.len
      refine ⟨hd, p, least, mk, e.ms, old ++ cs.map V.ref, rfl, own1 _ k2, by rw [upd_ne nhp]; exact c1, by rw [List.length_append, List.length_map]; omega, upd_same, by have := hms e he; omega, nhp.symm, fun p2 H2 np2 kp h1 h2 => ⟨rfl, ⟨hDn, fun c o n ec => kp c o n (ne_of_none (k1 c o n ec) hp) (k2 c o n ec), cs ++ [p2], ?_, ?_, ?_, ?_⟩, fun c o n1 n2 ec => kp c o n2 n1 (by rw [upd_ne n1]; exact ec)⟩⟩
      · rw [List.map_append, ← List.append_assoc]
        exact h1
      · intro z
        rcases List.mem_append.mp z with z | z
        · exact c2 z
        · rw [List.mem_singleton] at z
          rw [← z, upd_ne nhp, c1] at np2
          cases np2
      · intro z
        rcases List.mem_append.mp z with z | z
        · exact c3 z
        · rw [List.mem_singleton] at z
          rw [← z, upd_ne (ne_of_none hD hp), hD] at np2
          cases np2
      · refine CopyAt.snoc (c4.keep fun c hc o ec => kp c o (fun z => c2 (by rw [← z]; exact hc)) (ne_of_none ec hp) ?_) h2
        rw [upd_ne (ne_of_none ec hp)]
        exact ec
    · obtain ⟨hDn, k1, cs, c1, c2, c3, c4⟩ := hJ
      exact q H' D l cs hp hs k1 hD hH c1 c2 c3 c4
end
end Th
end D12
section M4
namespace Th
open PySem PySem.Spec PyProof.Rows L2
/-! ### what the law keeps beside the book -/
def kG (g : Str → Addr) (es : List Ent) : List (Key × V) := es.map fun e => (Sum.inr e.nm, V.ref (g e.nm))
structure KeptAt (H : Hp) (kd : Addr) (es : List Ent) (g : Str → Addr) : Prop where
  dc : H kd = some (.dK (kG g es))
  ls : ∀ e ∈ es, H (g e.nm) = some (.lst (e.ms.map V.str))
structure EntsOk (es : List Ent) : Prop where
  nd : (es.map (·.nm)).Nodup
  le : es.length ≤ 8
  nm : ∀ e ∈ es, WordS 12 e.nm
  ml : ∀ e ∈ es, e.ms.length ≤ 3
  mw : ∀ e ∈ es, ∀ m ∈ e.ms, WordS 8 m
theorem KeptAt.ext {H H' : Hp} {kd : Addr} {es : List Ent} {g : Str → Addr} (S : KeptAt H kd es g) (e : Ext H H') : KeptAt H' kd es g :=
  ⟨e.dic S.dc, fun x hx => e.lst (S.ls x hx)⟩
theorem valG {es : List Ent} {e : Ent} {g : Str → Addr} (nd : (es.map (·.nm)).Nodup) (h : e ∈ es) : valV (kG g es) (Sum.inr e.nm) = some (.ref (g e.nm)) := by
  unfold kG
  rw [valV_ent (fun e => V.ref (g e.nm)), find_ent nd h]
  rfl
theorem valG_no {es : List Ent} {z : Str} {g : Str → Addr} (h : z ∉ es.map (·.nm)) : valV (kG g es) (Sum.inr z) = none := by
  unfold kG
  rw [valV_ent (fun e => V.ref (g e.nm)), find_no h]
  rfl
theorem perm_lift {ys zs : List Str} (p : ys.Perm zs) : ∀ es : List Ent, es.map (·.nm) = zs → ∃ l : List Ent, l.Perm es ∧ l.map (·.nm) = ys := by
  induction p with
  | nil =>
    intro es h
    exact ⟨[], by rw [List.map_eq_nil_iff.mp h], rfl⟩
  | cons x _ ih =>
    intro es h
    cases es with
    | nil => cases h
    | cons e es =>
      rw [List.map_cons, List.cons.injEq] at h
      obtain ⟨l, h1, h2⟩ := ih es h.2
      exact ⟨e :: l, h1.cons e, by rw [List.map_cons, h2, h.1]⟩
  | swap x y r =>
    intro es h
    match es, h with
    | a :: b :: es, h =>
      rw [List.map_cons, List.map_cons, List.cons.injEq, List.cons.injEq] at h
      exact ⟨b :: a :: es, List.Perm.swap _ _ _, by rw [List.map_cons, List.map_cons, h.1, h.2.1, h.2.2]⟩
  | trans _ _ ih1 ih2 =>
    intro es h
    obtain ⟨l2, h1, h2⟩ := ih2 es h
    obtain ⟨l1, h3, h4⟩ := ih1 l2 h2
    exact ⟨l1, h3.trans h1, h4⟩
theorem ents_eq {es : List Ent} (nd : (es.map (·.nm)).Nodup) : ∀ {l l2 : List Ent}, (∀ e ∈ l, e ∈ es) → (∀ e ∈ l2, e ∈ es) → l.map (·.nm) = l2.map (·.nm) → l = l2
  | [], [], _, _, _ => rfl
  | [], _ :: _, _, _, h => by cases h
  | _ :: _, [], _, _, h => by cases h
  | a :: l, b :: l2, h1, h2, h => by
    rw [List.map_cons, List.map_cons, List.cons.injEq] at h
    rw [ent_of_nm nd (h1 a List.mem_cons_self) (h2 b List.mem_cons_self) h.1, ents_eq nd (fun e he => h1 e (List.mem_cons_of_mem _ he)) (fun e he => h2 e (List.mem_cons_of_mem _ he)) h.2]
/-- the names sorted tell the order of the entries -/
theorem sorted_ents {es l l2 : List Ent} (nd : (es.map (·.nm)).Nodup) (p : l.Perm es) (p2 : l2.Perm es) (s : sortedS (l.map (·.nm)) = true) (s2 : sortedS (l2.map (·.nm)) = true) : l = l2 :=
  ents_eq nd (fun e h => p.subset h) (fun e h => p2.subset h) (sorted_one ((p.trans p2.symm).map _) s s2)
/-! ### data -/
def dtS (l : List Str) : PyData := .list (l.map PyData.str)
theorem eqv_strs : ∀ a b : List Str, PyData.eqvAll (a.map PyData.str) (b.map PyData.str) = decide (a = b)
  | [], [] => rfl
  | [], _ :: _ => rfl
  | _ :: _, [] => rfl
  | x :: a, y :: b => by
    rw [List.map_cons, List.map_cons, PyData.eqvAll, eqv_strs a b, PyData.eqv]
    by_cases h : x = y
    · subst h
      simp
    · have e1 : (x == y) = false := by simp [h]
      rw [e1, Bool.false_and, decide_eq_false (fun z => h (List.cons.inj z).1)]
theorem eqv_dtS (a b : List Str) : PyData.eqv (dtS a) (dtS b) = decide (a = b) := by
  unfold dtS
  rw [PyData.eqv]
  exact eqv_strs a b
theorem strOk_of {n : Nat} {z : Str} (h : WordS n z) : PyData.strOk z = true := by
  unfold PyData.strOk
  rw [← Array.all_toList, List.all_eq_true]
  intro c hc
  have := h.sm c hc
  unfold Sm at this
  exact decide_eq_true (by omega)
theorem can_strs {n : Nat} : ∀ {l : List Str}, (∀ z ∈ l, WordS n z) → PyData.canLayAll0 (l.map PyData.str) = true
  | [], _ => rfl
  | z :: r, h => by
    rw [List.map_cons, PyData.canLayAll0, PyData.canLay0, strOk_of (h z List.mem_cons_self), can_strs (fun y hy => h y (List.mem_cons_of_mem _ hy))]
    rfl
theorem depth_strs : ∀ l : List Str, PyData.depthAll (l.map PyData.str) = 0
  | [] => rfl
  | z :: r => by
    rw [List.map_cons, PyData.depthAll, depth_strs r, PyData.depth]
    rfl
theorem shaped_dtS {n : Nat} {l : List Str} (h : ∀ z ∈ l, WordS n z) : SeqAt.shaped (dtS l) = true := by
  unfold SeqAt.shaped dtS
  rw [PyData.canLay0, can_strs h, PyData.depth, depth_strs]
  rfl
theorem can_dSs {n : Nat} : ∀ {ls : List (List Str)}, (∀ l ∈ ls, ∀ z ∈ l, WordS n z) → PyData.canLayAll0 (ls.map dtS) = true
  | [], _ => rfl
  | l :: r, h => by
    rw [List.map_cons, PyData.canLayAll0, can_dSs (fun y hy => h y (List.mem_cons_of_mem _ hy))]
    unfold dtS
    rw [PyData.canLay0, can_strs (h l List.mem_cons_self)]
    rfl
theorem depth_dSs : ∀ ls : List (List Str), PyData.depthAll (ls.map dtS) ≤ 1
  | [] => Nat.zero_le _
  | l :: r => by
    have ih := depth_dSs r
    rw [List.map_cons, PyData.depthAll]
    unfold dtS at ih ⊢
    rw [PyData.depth, depth_strs]
    exact Nat.max_le.mpr ⟨Nat.le_refl _, ih⟩
theorem shaped_dSs {n : Nat} {ls : List (List Str)} (h : ∀ l ∈ ls, ∀ z ∈ l, WordS n z) : SeqAt.shaped (.list (ls.map dtS)) = true := by
  have hd := depth_dSs ls
  unfold SeqAt.shaped
  rw [PyData.canLay0, can_dSs h, PyData.depth, decide_eq_true (by omega)]
  rfl
section
variable {K : PySem.W.Frag} {H : Hp}
theorem dp_strs : ∀ l : List Str, DpAll K H (l.map V.str) (l.map PyData.str)
  | [] => .nil
  | z :: r => .cons (.str z) (dp_strs r)
theorem dp_dtS {a : Addr} {l : List Str} (h : SqL K H a (l.map V.str)) : Dp K H (.ref a) (dtS l) := .lst h (dp_strs l)
theorem dp_dSs : ∀ {cs : List Addr} {ls : List (List Str)}, cs.length = ls.length → (∀ (i : Nat) (c : Addr) (l : List Str), cs[i]? = some c → ls[i]? = some l → SqL K H c (l.map V.str)) → DpAll K H (cs.map V.ref) (ls.map dtS)
  | [], [], _, _ => .nil
  | [], _ :: _, h, _ => by cases h
  | _ :: _, [], h, _ => by cases h
  | c :: cs, l :: ls, h, q => .cons (dp_dtS (q 0 c l rfl rfl)) (dp_dSs (Nat.succ.inj h) fun i c' l' h1 h2 => q (i + 1) c' l' h1 h2)
end
end Th
end M4
section D13
namespace Th
open PySem PySem.Spec PyProof.Rows L2 NdefX LamX Clo
theorem tabs_keep {T : List NTab} {H H' : Hp} (t : TabsN T H) (e : ∀ b o, H b = some o → (∀ xs, o ≠ .lst xs) → (∀ kvs, o ≠ .dK kvs) → (∀ C dx fs, o ≠ .ins C dx fs) → H' b = some o) : TabsN T H' := fun p hp => by
  obtain ⟨ps, h1, h2, h3⟩ := t p hp
  refine ⟨ps, e _ _ h1 (fun _ z => by cases z) (fun _ z => by cases z) (fun _ _ _ z => by cases z), h2, fun pos cv hc => ?_⟩
  obtain ⟨c, e1, e2⟩ := h3 pos cv hc
  exact ⟨c, e1, e _ _ e2 (fun _ z => by unfold CodeO at z; cases z) (fun _ z => by unfold CodeO at z; cases z) (fun _ _ _ z => by unfold CodeO at z; cases z)⟩
section
variable {P : Program} {w : World} {K : PySem.W.Frag} {mg : Str → Option Value} {base : Heap}
abbrev N_bt : List Str := ["_law_book_here", "_law_kept", "_law_wanted_one", "_law_signs", "_law_text", "_law_due", "_law_name_here", "_law_found", "_law_sign", "_law_mark_here"]
theorem sc_bt : FnScope N_bt ["_law_book_here", "_law_kept", "_law_wanted_one", "_law_signs"] (defScope s_by_text) := ⟨rfl, rfl, rfl, by decide +kernel, rfl, by decide +kernel, by decide +kernel⟩
def sp_bt (K : PySem.W.Frag) : Sp := fun vs H Q _ => ∃ (b dR dS kd wa sa : Addr) (es : List Ent) (g : Str → Addr) (ws sgs : List Str), vs = [.ref b, .ref kd, .ref wa, .ref sa] ∧ BookAt K H b dR dS es ∧ KeptAt H kd es g ∧ EntsOk es ∧ TabsN (TT K) H ∧
  SqL K H wa (ws.map V.str) ∧ SqL K H sa (sgs.map V.str) ∧ ws.length ≤ 2 ∧ sgs.length ≤ 2 ∧ (∀ m ∈ ws, WordS 8 m) ∧ (∀ s ∈ sgs, s = noneS ∨ s = minusS) ∧
  ∀ H', Ext H H' → TabsN (TT K) H' → Q (.bl true) H'
theorem str_len_app (a b : Str) : (a ++ b).length = a.length + b.length := by
  have e : ∀ x : Str, x.length = x.cps.toList.length := fun x => by simp [Str.length]
  rw [e, e, e, app_tl, List.length_append]
theorem dec_strs (a b : Str) : decide (V.str a = V.str b) = decide (a = b) := by simp
theorem wordP_len {p : Str × Str} (h : PairOk p) : (wordP p).length ≤ 9 := by
  have el : (wordP p).length = (wordP p).cps.toList.length := by simp [Str.length]
  rw [el]
  exact (word_len h).2
theorem word_sum : ∀ {ps : List (Str × Str)}, (∀ p ∈ ps, PairOk p) → ((ps.map wordP).map (·.length)).sum ≤ 9 * ps.length
  | [], _ => Nat.zero_le _
  | p :: r, h => by
    have ih := word_sum (ps := r) fun x hx => h x (List.mem_cons_of_mem _ hx)
    have h1 := wordP_len (h p List.mem_cons_self)
    rw [List.map_cons, List.map_cons, List.sum_cons, List.length_cons]
    omega
def okB (p : Str × Str) (ms : List Str) : Bool := decide (p.2 ∈ ms) == decide (p.1 = noneS)
theorem ok_bt (T : Tx K mg) (TF : TabF K base mg) : C8.Cal P w K mg base 4 "_law_by_text" (sp_bt K) [] := by
  obtain ⟨fd, F⟩ := T.d_law_by_text
  have CC : C8.Met P w K mg base 3 (cBook K) "chosen" (sp_chS K) [] := ok_chS T
  have CS : C8.Cal P w K mg base 3 "sieve" (sp_sieve K) [] := ok_sieve T TF
  refine cal_of F T.g_law_by_text (F.bindsN (ps := ["_law_book_here", "_law_kept", "_law_wanted_one", "_law_signs"]) fun _ _ _ _ _ _ us hl => match us, hl with | [_, _, _, _], _ => rfl) .nil sc_bt (fun vs H Q E h => ?_) (fun cdv A outer s H vs Q E hr h => ?_)
  · obtain ⟨b, dR, dS, kd, wa, sa, es, g, ws, sgs, rfl, _⟩ := h
    rfl
  · obtain ⟨b, dR, dS, kd, wa, sa, es, g, ws, sgs, rfl, B, KA, EO, hT, hw, hs, w2, s2, hwW, hsS, q⟩ := h
    have hu := hu_of hr
    obtain ⟨ps, hps⟩ : ∃ ps : List (Str × Str), ps = sgs.zip ws := ⟨_, rfl⟩
    have pl : ps.length = min (sgs.map V.str).length (ws.map V.str).length := by
      rw [hps, List.length_zip, List.length_map, List.length_map]
    have pl2 : ps.length ≤ 2 := by
      rw [hps, List.length_zip]
      omega
    have pAt : ∀ (i : Nat) (x y : V), i < ps.length → (sgs.map V.str)[i]? = some x → (ws.map V.str)[i]? = some y → ∃ s m, x = .str s ∧ y = .str m ∧ ps[i]? = some (s, m) := fun i x y _ hx hy => by
      rw [List.getElem?_map] at hx hy
      obtain ⟨s, h1, rfl⟩ := Option.map_eq_some_iff.mp hx
      obtain ⟨m, h2, rfl⟩ := Option.map_eq_some_iff.mp hy
      exact ⟨s, m, rfl, rfl, by rw [hps]; exact List.getElem?_zip_eq_some.mpr ⟨h1, h2⟩⟩
    have PO : ∀ p ∈ ps, PairOk p := fun p hp => by
      rw [hps] at hp
      have h1 := List.of_mem_zip (show (p.1, p.2) ∈ sgs.zip ws from hp)
      exact ⟨hsS _ h1.1, hwW _ h1.2⟩
    refine ⟨_, pss_cons (ps_set (i := 4) sc_bt.nd rfl (.inl rfl) (pe_join pe_str (pe_lc (own := [("_law_sign", 8), ("_law_mark_here", 9)]) (g := gTup K 2 (gCons (gName 8) (gCons (gName 9) gNil))) (tt := tYes) rfl sc_bt.nd (pi_zip (by rfl) T.z_zip (pa_cons (pv 3) (pa_cons (pv 2) pa_nil))) (blkOk_by (N := N_bt) (sc := defScope s_by_text) (by decide +kernel))
          (fun _ _ _ _ _ => pg_tup rfl (pgs_cons (pg_name (i := 8) sc_bt.nd rfl (Or.inl rfl)) (pgs_cons (pg_name (i := 9) sc_bt.nd rfl (Or.inl rfl)) pgs_nil))) (fun _ _ _ _ _ => pts_nil)
          (fun _ _ _ _ _ => pe_op op_add_str (pv 8) (pv 9)))))
      (pss_cons (ps_set (i := 5) sc_bt.nd rfl (.inl rfl) (pe_lst pa_nil))
      (pss_cons (ps_for PassesOwn.never rfl (pi_list (pe_callB (call_sortedD rfl) (by rfl) T.z_sorted (by decide +kernel) (pa_cons (pv 1) pa_nil))) (pg_name (i := 6) sc_bt.nd rfl (.inr rfl))
        (pss_one (ps_if (pt_val (pe_callB (cr_all rfl) (by rfl) T.z_all (by decide +kernel) (pa_cons (pe_lc (own := [("_law_sign", 8), ("_law_mark_here", 9)]) (g := gTup K 2 (gCons (gName 8) (gCons (gName 9) gNil))) (tt := tYes) rfl sc_bt.nd (pi_zip (by rfl) T.z_zip (pa_cons (pv 3) (pa_cons (pv 2) pa_nil))) (blkOk_by (N := N_bt) (sc := defScope s_by_text) (by decide +kernel))
          (fun _ _ _ _ _ => pg_tup rfl (pgs_cons (pg_name (i := 8) sc_bt.nd rfl (Or.inl rfl)) (pgs_cons (pg_name (i := 9) sc_bt.nd rfl (Or.inl rfl)) pgs_nil))) (fun _ _ _ _ _ => pts_nil)
          (fun _ _ _ _ _ => pe_cmpR op_eq (pe_cmpR (r := rIn K false) op_in_seq (pv 9) (pe_dget hu (pv 1) (pv 6) (fun _ _ => rfl)) rfl) (pe_cmpR op_eq (pv 8) pe_str (nomark _)) (nomark _))) pa_nil)))
          (pss_one (ps_expr (pe_bm PySem.F.plainAttrs_list PySem.F.slot_list_append PySem.F.type_list_append mt_append (pv 5) (pa_cons (pv 6) pa_nil)))) pss_nil)))
      (pss_cons (ps_set (i := 7) sc_bt.nd rfl (.inl rfl) (C8.pe_mt CC hr (by decide) (pv 0) (pa_cons (C8.pe_c CS hr (by decide) rfl (pa_cons (pv 4) pa_nil)) pa_nil)))
      (pss_cons (ps_if (PW.pt (pw_or (pt_not (pt_val (pe_callB call_isi (by rfl) T.z_isinstance (by decide +kernel) (pa_cons (pv 7) (pa_cons (pe_bltn (v := .ty "list") (by rfl) T.z_list (by decide +kernel) rfl) pa_nil))))) (pw_or1 (pt_cmpR (op_neD hr.units) (pv 7) (pv 5) (nomark _))))) (pss_one ps_never) pss_nil)
      (pss_cons (ps_expr (pe_bm PySem.F.plainAttrs_list PySem.F.slot_list_append PySem.F.type_list_append mt_append (pv 7) (pa_cons pe_str pa_nil)))
      (pss_one (ps_ret (pe_cmpR (op_eqD hr.units) (C8.pe_mt CC hr (by decide) (pv 0) (pa_cons (C8.pe_c CS hr (by decide) rfl (pa_cons (pv 4) pa_nil)) pa_nil)) (pv 5) (nomark _))))))))), ?_⟩
    have okStep : ∀ (i : Nat) (p : Str × Str), ps[i]? = some p → ps.take (i + 1) = ps.take i ++ [p] := fun i p h => by
      rw [List.take_add_one, h]
      rfl
    refine ⟨⟨_, rfl⟩, _, rfl, _, rfl, sa, wa, _, _, rfl, hs, hw, fun D hD => ?_⟩
    have s1 : Same H (upd H D (.lst [])) := same_upd hD
    refine lc_it (walk_zip (K := K) (a := sa) (b := wa) (n := ps.length) pl) (fun i H' => Same H H' ∧ H' D = some (.lst (((ps.take i).map wordP).map V.str))) ⟨s1, upd_same⟩ (fun i H' _ ⟨s, _⟩ => ⟨s.seq hs, s.seq hw⟩) ?_ ?_
    · rintro i x H1 H2 hi ⟨sx, hDx⟩ ⟨t, xa, ya, rfl, ht, rfl, hx, hy⟩
      obtain ⟨sg, m, rfl, rfl, hp⟩ := pAt i xa ya hi hx hy
      have st : Same H (upd H1 t (.tup [V.str sg, V.str m])) := sx.trans (same_upd ht)
      have ntD : D ≠ t := ne_of_none hDx ht
      refine ⟨t, _, rfl, .inl (.inl upd_same), rfl, _, _, rfl, _, _, rfl, rfl, rfl, ?_⟩
      have hwl := wordP_len (PO _ (List.mem_of_getElem? hp))
      refine ⟨_, rfl, _, rfl, sg, m, rfl, rfl, ?_, _, (by rw [upd_ne ntD]; exact hDx), ?_, same_write st hD, ?_⟩
      · refine Nat.le_trans ?_ (show 9 ≤ sizeLine by decide)
        rw [← str_len_app]
        exact hwl
      · rw [List.length_map, List.length_map, List.length_take]
        exact small1000 (by omega)
      · rw [upd_same, okStep i _ hp, List.map_append, List.map_append]
        rfl
    · rintro H1 ⟨sx, hDx⟩
      rw [List.take_length] at hDx
      refine ⟨_, D, ps.map wordP, rfl, rfl, .inl (.inl (.inl hDx)), ?_, ?_⟩
      · have hsum := word_sum PO
        rw [List.length_map]
        show _ + ps.length * 1 ≤ 16777216
        omega
      refine ⟨Nat.zero_le _, fun d hd => ?_⟩
      have sd : Same H (upd H1 d (.lst [])) := sx.trans (same_upd hd)
      have hdH : H d = none := sx.free hd
      refine ⟨_, rfl, kd, kG g es, es.map (·.nm), rfl, .inl (sd _ _ KA.dc), (by unfold kG; rw [List.map_map, List.map_map]; rfl), (by rw [List.length_map]; have := EO.le; omega), fun ys c hperm hsort hc => ?_⟩
      obtain ⟨l0, hl0, hl1⟩ := perm_lift hperm es rfl
      subst hl1
      have sc : Same H (upd (upd H1 d (.lst [])) c (.lst ((l0.map (·.nm)).map V.str))) := sd.trans (same_upd hc)
      have ndc : d ≠ c := ne_of_none upd_same hc
      have l08 : l0.length ≤ 8 := by rw [hl0.length_eq]; exact EO.le
      refine ⟨c, rfl, ⟨_, .inl (.inl upd_same)⟩, ?_⟩
      refine for_list (K := K) (a := c) (xs := (l0.map (·.nm)).map V.str) (fun i σ H' => ∃ y6, σ = [some (.ref b), some (.ref kd), some (.ref wa), some (.ref sa), some (.str (textP ps)), some (.ref d), y6, none, none, none] ∧ Same H H' ∧ H' c = some (.lst ((l0.map (·.nm)).map V.str)) ∧ H' d = some (.lst ((((l0.take i).filter fun e => psB ps e.ms).map (·.nm)).map V.str)))
        ⟨none, rfl, sc, upd_same, by rw [upd_ne ndc, upd_same]; rfl⟩ (fun i σ H' _ ⟨_, _, _, e, _⟩ => .inl (.inl e)) ?_ ?_
      · rintro i x σ H2 hi ⟨y6, rfl, s2, hc2, hd2⟩
        rw [List.getElem?_map, List.getElem?_map] at hi
        obtain ⟨z, hz, rfl⟩ := Option.map_eq_some_iff.mp hi
        obtain ⟨e, he, rfl⟩ := Option.map_eq_some_iff.mp hz
        have hee : e ∈ es := hl0.subset (List.mem_of_getElem? he)
        have tk : l0.take (i + 1) = l0.take i ++ [e] := by
          rw [List.take_add_one, he]
          rfl
        refine ⟨_, rfl, _, rfl, sa, wa, _, _, rfl, s2.seq hs, s2.seq hw, fun D2 hD2 => ?_⟩
        have s3 : Same H2 (upd H2 D2 (.lst [])) := same_upd hD2
        refine lc_it (walk_zip (K := K) (a := sa) (b := wa) (n := ps.length) pl) (fun j H' => Same H2 H' ∧ H' D2 = some (.lst (((ps.take j).map fun p => okB p e.ms).map V.bl))) ⟨s3, upd_same⟩ (fun j H' _ ⟨s, _⟩ => ⟨s.seq (s2.seq hs), s.seq (s2.seq hw)⟩) ?_ ?_
        · rintro j x H3 H4 hj ⟨s4, hD4⟩ ⟨t, xa, ya, rfl, ht, rfl, hx, hy⟩
          obtain ⟨sg, m, rfl, rfl, hp⟩ := pAt j xa ya hj hx hy
          have st : Same H2 (upd H3 t (.tup [V.str sg, V.str m])) := s4.trans (same_upd ht)
          have ntD : D2 ≠ t := ne_of_none hD4 ht
          have sH := s2.trans st
          refine ⟨t, _, rfl, .inl (.inl upd_same), rfl, _, _, rfl, _, _, rfl, rfl, rfl, ?_⟩
          refine ⟨_, rfl, _, rfl, _, rfl, kd, .ref (g e.nm), rfl, (by rw [← valG EO.nd hee]; exact DGet.k (k := Sum.inr e.nm) (sH _ _ KA.dc)), g e.nm, _, rfl, .inl (.inl (.inl (sH _ _ (KA.ls e hee)))), rfl, flat_strs e.ms, ?_⟩
          rw [inV_str]
          refine ⟨_, rfl, rfl, rfl, _, (by rw [upd_ne ntD]; exact hD4), ?_, same_write st hD2, ?_⟩
          · rw [List.length_map, List.length_map, List.length_take]
            exact small1000 (by omega)
          · rw [upd_same, okStep j _ hp, List.map_append, List.map_append]
            show some (HO.lst (_ ++ [V.bl _])) = some (HO.lst (_ ++ [V.bl (decide (m ∈ e.ms) == decide (sg = noneS))]))
            rw [dec_bl, dec_strs]
            rfl
        · rintro H3 ⟨s4, hD4⟩
          rw [List.take_length] at hD4
          have sH := s2.trans s4
          refine ⟨D2, ps.map fun p => okB p e.ms, rfl, .inl (.inl hD4), ?_⟩
          have hall : (ps.map fun p => okB p e.ms).all id = psB ps e.ms := by
            rw [List.all_map]
            rfl
          rw [hall]
          refine ⟨_, rfl, ?_⟩
          have hd3 : H3 d = some (.lst ((((l0.take i).filter fun e => psB ps e.ms).map (·.nm)).map V.str)) := s4 _ _ hd2
          have hc3 : H3 c = some (.lst ((l0.map (·.nm)).map V.str)) := s4 _ _ hc2
          have tl : ∀ bb : Bool, psB ps e.ms = bb → ((l0.take (i + 1)).filter fun e => psB ps e.ms).map (·.nm) = ((l0.take i).filter fun e => psB ps e.ms).map (·.nm) ++ (if bb then [e.nm] else []) := fun bb hb => by
            rw [tk, List.filter_append, List.map_append, List.filter_cons, List.filter_nil, hb]
            cases bb <;> rfl
          cases hb : psB ps e.ms with
          | false =>
            refine iteF ⟨_, rfl, sH, hc3, ?_⟩
            rw [tl _ hb]
            show H3 d = some (.lst ((_ ++ []).map V.str))
            rw [List.append_nil]
            exact hd3
          | true =>
            refine iteT ?_
            refine ⟨_, rfl, .inl ⟨rfl, _, .inl (.inl hd3)⟩, _, rfl, d, _, _, rfl, rfl, hd3, ?_, _, rfl, same_write sH hdH, ?_, ?_⟩
            · rw [List.length_map, List.length_map]
              have h1 := List.length_filter_le (fun e : Ent => psB ps e.ms) (l0.take i)
              rw [List.length_take] at h1
              exact small1000 (by omega)
            · rw [upd_ne ndc.symm]
              exact hc3
            · rw [upd_same, tl _ hb, List.map_append]
              rfl
      · rintro σ H2 ⟨y6, rfl, s2, hc2, hd2⟩
        have hE2 : Ext H H2 := Same.ext s2
        have T2 : TabsN (TT K) H2 := tabs_same hT s2
        have lens : ((l0.map (·.nm)).map V.str).length = l0.length := by rw [List.length_map, List.length_map]
        rw [lens, List.take_length] at hd2
        obtain ⟨due, hdue⟩ : ∃ due : List Str, due = (l0.filter fun e => psB ps e.ms).map (·.nm) := ⟨_, rfl⟩
        rw [← hdue] at hd2
        have dueW : ∀ z ∈ due, WordS 12 z := fun z hz => by
          rw [hdue] at hz
          obtain ⟨e, he, rfl⟩ := List.mem_map.mp hz
          exact EO.nm e (hl0.subset (List.mem_filter.mp he).1)
        have dueL : due.length ≤ 8 := by
          rw [hdue, List.length_map]
          exact Nat.le_trans (List.length_filter_le _ _) l08
        have same_due : ∀ l : List Ent, l.Perm es → sortedS (l.map (·.nm)) = true → ((l.filter fun e => psB ps e.ms).map fun e => V.str e.nm) = due.map V.str := fun l p so => by
          rw [sorted_ents EO.nd p hl0 so hsort, hdue, List.map_map]
          rfl
        have eqv1 : PyData.eqv (dtS due) (dtS due) = true := by
          rw [eqv_dtS]
          exact decide_eq_true rfl
        have shp : SeqAt.shaped (dtS due) = true := shaped_dtS dueW
        obtain ⟨dx, r, lim, wd, day, b1, _, _⟩ := B.ex
        refine ⟨_, rfl, b, dx, _, rfl, hE2.ins b1, rfl, _, rfl, ps, rfl, pl2, PO, T2, fun H3 f E3 T3 S3 => ?_⟩
        refine ⟨b, dR, dS, f, es, ps, rfl, EO.le, B.ext (Ext.trans hE2 E3), S3, fun H4 D4 l4 hp4 so4 s4 hD4 h4 => ?_⟩
        rw [same_due l4 hp4 so4] at h4
        have hd4 : H4 d = some (.lst (due.map V.str)) := s4 _ _ (E3.lst hd2)
        refine ⟨_, rfl, _, _, _, _, true, rfl, .ty "list", .base (.lst h4), kit_ty (by decide +kernel), true, rfl, ?_⟩
        refine iteF ?_
        refine ⟨_, rfl, _, rfl, dtS due, dtS due, dp_dtS (.inl (.inl h4)), dp_dtS (.inl (.inl hd4)), shp, shp, false, (by rw [eqv1]; rfl), iteF ?_⟩
        have dD4 : d ≠ D4 := fun z => by
          rw [← z, E3.lst hd2] at hD4
          cases hD4
        refine ⟨_, rfl, .inl ⟨rfl, _, .inl (.inl h4)⟩, D4, _, _, rfl, rfl, h4, (by rw [List.length_map]; exact small1000 (by omega)), ?_⟩
        have E4 : Ext H2 (upd H4 D4 (.lst (due.map V.str ++ [.str "y"]))) := fun x o e n => by
          have e3 := E3 x o e n
          rw [upd_ne (ne_of_none e3 hD4)]
          exact s4 x o e3
        have T4 : TabsN (TT K) (upd H4 D4 (.lst (due.map V.str ++ [.str "y"]))) := tabs_keep (tabs_same T3 s4) fun x o e n1 _ _ => by
          rw [upd_ne (fun z => by rw [z, h4] at e; exact n1 _ (Option.some.inj e).symm)]
          exact e
        refine ⟨_, rfl, b, dx, _, rfl, (Ext.trans hE2 E4).ins b1, rfl, _, rfl, ps, rfl, pl2, PO, T4, fun H5 f5 E5 T5 S5 => ?_⟩
        refine ⟨b, dR, dS, f5, es, ps, rfl, EO.le, B.ext (Ext.trans hE2 (Ext.trans E4 E5)), S5, fun H6 D6 l6 hp6 so6 s6 hD6 h6 => ?_⟩
        rw [same_due l6 hp6 so6] at h6
        have hd6 : H6 d = some (.lst (due.map V.str)) := s6 _ _ ((Ext.trans E4 E5).lst hd2)
        refine ⟨_, rfl, dtS due, dtS due, dp_dtS (.inl (.inl h6)), dp_dtS (.inl (.inl hd6)), shp, shp, ?_⟩
        rw [eqv1]
        exact q _ (Ext.trans hE2 (Ext.trans E4 (Ext.trans E5 (Same.ext s6)))) (tabs_same T5 s6)
end
end Th
end D13
section D14
namespace Th
open PySem PySem.Spec PyProof.Rows L2 NdefX LamX Clo
theorem room65 {A : Around} {k : Nat} (r : Room k A) : A.units + 65 < cLine := by
  have := r.un
  omega
theorem CopyAt.join {H : Hp} : ∀ {cs ds : List Addr} {l l2 : List Ent}, CopyAt H cs l → CopyAt H ds l2 → CopyAt H (cs ++ ds) (l ++ l2)
  | [], _, [], _, _, h => h
  | [], _, _ :: _, _, h, _ => h.elim
  | _ :: _, _, [], _, h, _ => h.elim
  | _ :: _, _, _ :: _, _, h, g => ⟨h.1, CopyAt.join h.2 g⟩
theorem CopyAt.at {H : Hp} : ∀ {cs : List Addr} {l : List Ent} {i : Nat} {c : Addr} {e : Ent}, CopyAt H cs l → cs[i]? = some c → l[i]? = some e → H c = some (.lst (e.ms.map V.str))
  | [], _, _, _, _, _, h, _ => by cases h
  | _ :: _, [], _, _, _, h, _, _ => h.elim
  | x :: cs, y :: l, 0, c, e, h, h1, h2 => by
    cases h1
    cases h2
    exact h.1
  | x :: cs, y :: l, i + 1, c, e, h, h1, h2 => CopyAt.at h.2 (i := i) h1 h2
section
variable {P : Program} {w : World} {K : PySem.W.Frag} {mg : Str → Option Value} {base : Heap}
abbrev rLen (K : PySem.W.Frag) : List V → Hp → VK → Prop := fun xs H Q => ∃ p ys, xs = [V.ref p] ∧ (SqL K H p ys ∨ SqT K H p ys) ∧ Q (V.int (ys.length : Nat)) H
abbrev N_bo : List Str := ["_law_book_here", "_law_kept", "_law_mark_here", "_law_least", "_law_heard", "_law_lets", "_law_due", "_law_marks", "_law_name_here"]
theorem sc_bo : FnScope N_bo ["_law_book_here", "_law_kept", "_law_mark_here", "_law_least"] (defScope s_by_own) := ⟨rfl, rfl, rfl, by decide +kernel, rfl, by decide +kernel, by decide +kernel⟩
def sp_bo (K : PySem.W.Frag) : Sp := fun vs H Q _ => ∃ (b dR dS kd : Addr) (es : List Ent) (g : Str → Addr) (mk : Str) (least : Int), vs = [.ref b, .ref kd, .str mk, .int least] ∧ BookAt K H b dR dS es ∧ KeptAt H kd es g ∧ EntsOk es ∧ TabsN (TT K) H ∧
  ∀ H', Ext H H' → TabsN (TT K) H' → Q (.bl true) H'
theorem ok_bo (T : Tx K mg) (TF : TabF K base mg) : C8.Cal P w K mg base 4 "_law_by_own" (sp_bo K) [] := by
  obtain ⟨fd, F⟩ := T.d_law_by_own
  have CC : C8.Met P w K mg base 3 (cBook K) "chosen" (sp_chO K) [] := ok_chO T
  have CO : C8.Cal P w K mg base 1 "_law_own" (sp_own K) [] := ok_own T TF
  refine cal_of F T.g_law_by_own (F.bindsN (ps := ["_law_book_here", "_law_kept", "_law_mark_here", "_law_least"]) fun _ _ _ _ _ _ us hl => match us, hl with | [_, _, _, _], _ => rfl) .nil sc_bo (fun vs H Q E h => ?_) (fun cdv A outer s H vs Q E hr h => ?_)
  · obtain ⟨b, dR, dS, kd, es, g, mk, least, rfl, _⟩ := h
    rfl
  · obtain ⟨b, dR, dS, kd, es, g, mk, least, rfl, B, KA, EO, hT, q⟩ := h
    have hu := hu_of hr
    have hu65 := room65 hr
    refine ⟨_, pss_cons (ps_set (i := 4) sc_bo.nd rfl (.inr rfl) (pe_lst pa_nil))
      (pss_cons (ps_set (i := 5) sc_bo.nd rfl (.inl rfl) (C8.pe_c CO hr (by decide) rfl (pa_cons (pv 2) (pa_cons (pv 3) (pa_cons (pv 4) pa_nil)))))
      (pss_cons (ps_setLc (i := 6) (own := [("_law_name_here", 8)]) (g := gName 8) rfl sc_bo.nd rfl rfl (sw_true rfl rfl rfl (by decide +kernel))
        (pi_list (pe_callB (call_sortedD rfl) (by rfl) T.z_sorted (by decide +kernel) (pa_cons (pv 1) pa_nil))) (blkOk_by (N := N_bo) (sc := defScope s_by_own) (by decide +kernel))
        (fun _ _ _ _ _ => pg_name (i := 8) sc_bo.nd rfl (Or.inl rfl))
        (fun _ _ _ _ _ => pts_one (PW.pt (pw_and (pt_cmpR op_ge (pe_callB (r := rLen K) call_len_seq (by rfl) T.z_len PySem.boot_len (pa_cons (pe_dget hu (pv 1) (pv 8) (fun _ _ => rfl)) pa_nil)) (pv 3) (nomark _)) (pw_and1 (pt_cmpR (r := rIn K true) op_notIn_seq (pv 2) (pe_dget hu (pv 1) (pv 8) (fun _ _ => rfl)) rfl)))))
        (fun _ _ _ _ _ => pv 8))
      (pss_cons (ps_if (PW.pt (pw_or (pt_cmpR (op_neD hr.units) (C8.pe_mt CC hr (by decide) (pv 0) (pa_cons (pv 5) pa_nil)) (pv 6) (nomark _)) (pw_or1 (pt_cmpR (op_neD hr.units) (C8.pe_mt CC hr (by decide) (pv 0) (pa_cons (pv 5) pa_nil)) (pv 6) (nomark _))))) (pss_one ps_never) pss_nil)
      (pss_cons (ps_for PassesOwn.never rfl (pi_list (pv 4)) (pg_name (i := 7) sc_bo.nd rfl (.inl rfl))
        (pss_one (ps_if (pt_cmpR (op_notInD hu65) (pv 7) (Kx.pe_listVals rfl (pv 1) (by rfl) T.z_list (by decide +kernel)) rfl) (pss_one ps_never) pss_nil)))
      (pss_one (ps_ret (pe_callB (cr_all rfl) (by rfl) T.z_all (by decide +kernel) (pa_cons (pe_lock (pe_lc (own := [("_law_marks", 7)]) (g := gName 7) (tt := tYes) rfl sc_bo.nd (pi_values (pv 1)) (blkOk_by (N := N_bo) (sc := defScope s_by_own) (by decide +kernel))
          (fun _ _ _ _ _ => pg_name (i := 7) sc_bo.nd rfl (Or.inl rfl)) (fun _ _ _ _ _ => pts_nil)
          (fun _ _ _ _ _ => pe_cmpR (r := rInD K) (op_inD hu65) (pv 7) (pv 4) rfl))) pa_nil)))))))), ?_⟩
    refine ⟨Nat.zero_le _, fun hd hhd => ?_⟩
    have s1 : Same H (upd H hd (.lst [])) := same_upd hhd
    refine ⟨_, rfl, _, rfl, _, rfl, hd, least, mk, rfl, tabs_same hT s1, fun H2 f E2 T2 nf O2 => ?_⟩
    have X2 : Ext H H2 := Ext.trans (Same.ext s1) E2
    have hd2 : H2 hd = some (.lst []) := E2.lst upd_same
    have K2 := KA.ext X2
    refine ⟨_, rfl, kd, kG g es, es.map (·.nm), rfl, .inl K2.dc, (by unfold kG; rw [List.map_map, List.map_map]; rfl), (by rw [List.length_map]; have := EO.le; omega), fun ys c hperm hsort hc => ?_⟩
    obtain ⟨l0, hl0, hl1⟩ := perm_lift hperm es rfl
    subst hl1
    have s2 : Same H2 (upd H2 c (.lst ((l0.map (·.nm)).map V.str))) := same_upd hc
    have l08 : l0.length ≤ 8 := by rw [hl0.length_eq]; exact EO.le
    refine ⟨c, rfl, ⟨_, .inl (.inl upd_same)⟩, fun D hD => ?_⟩
    have s3 : Same H2 (upd (upd H2 c (.lst ((l0.map (·.nm)).map V.str))) D (.lst [])) := s2.trans (same_upd hD)
    have ncD : c ≠ D := ne_of_none upd_same hD
    have hDH2 : H2 D = none := s2.free hD
    refine lc_list (K := K) (a := c) (xs := (l0.map (·.nm)).map V.str) (fun i H' => Same H2 H' ∧ H' c = some (.lst ((l0.map (·.nm)).map V.str)) ∧ H' D = some (.lst ((((l0.take i).filter fun e => ownB least mk e.ms).map (·.nm)).map V.str)))
      ⟨s3, by rw [upd_ne ncD, upd_same], upd_same⟩ (fun i H' _ ⟨_, e, _⟩ => .inl (.inl e)) ?_ ?_
    · rintro i x H3 hi ⟨s4, hc3, hD3⟩
      rw [List.getElem?_map, List.getElem?_map] at hi
      obtain ⟨z, hz, rfl⟩ := Option.map_eq_some_iff.mp hi
      obtain ⟨e, he, rfl⟩ := Option.map_eq_some_iff.mp hz
      have hee : e ∈ es := hl0.subset (List.mem_of_getElem? he)
      have tk : l0.take (i + 1) = l0.take i ++ [e] := by
        rw [List.take_add_one, he]
        rfl
      have K3 := K2.ext (Same.ext s4)
      have gget : DGet H3 kd (V.str e.nm) (some (V.ref (g e.nm))) := by
        rw [← valG EO.nd hee]
        exact DGet.k (k := Sum.inr e.nm) K3.dc
      have tl : ∀ bb : Bool, ownB least mk e.ms = bb → ((l0.take (i + 1)).filter fun e => ownB least mk e.ms).map (·.nm) = ((l0.take i).filter fun e => ownB least mk e.ms).map (·.nm) ++ (if bb then [e.nm] else []) := fun bb hb => by
        rw [tk, List.filter_append, List.map_append, List.filter_cons, List.filter_nil, hb]
        cases bb <;> rfl
      have no : ownB least mk e.ms = false → Same H2 H3 ∧ H3 c = some (.lst ((l0.map (·.nm)).map V.str)) ∧ H3 D = some (.lst ((((l0.take (i + 1)).filter fun e => ownB least mk e.ms).map (·.nm)).map V.str)) := fun hb => by
        refine ⟨s4, hc3, ?_⟩
        rw [tl _ hb]
        show H3 D = some (.lst ((_ ++ []).map V.str))
        rw [List.append_nil]
        exact hD3
      refine ⟨rfl, _, rfl, _, rfl, kd, _, rfl, gget, g e.nm, _, rfl, .inl (.inl (.inl (K3.ls e hee))), _, rfl, _, _, rfl, rfl, ?_⟩
      by_cases hc1 : least ≤ (e.ms.length : Int)
      · refine ⟨true, (by show V.bl (decide (least ≤ ((e.ms.map V.str).length : Int))) = _; rw [List.length_map, decide_eq_true hc1]), iteT ?_⟩
        refine ⟨_, rfl, _, rfl, _, rfl, kd, _, rfl, gget, g e.nm, _, rfl, .inl (.inl (.inl (K3.ls e hee))), rfl, flat_strs e.ms, ?_⟩
        rw [if_pos rfl, inV_str]
        have hown : ownB least mk e.ms = !decide (mk ∈ e.ms) := by
          unfold ownB
          rw [decide_eq_true hc1, Bool.true_and]
        refine ⟨_, rfl, ?_⟩
        rw [← hown]
        cases hb : ownB least mk e.ms with
        | false => exact iteF (no hb)
        | true =>
          refine iteT ⟨_, rfl, _, hD3, ?_, same_write s4 hDH2, ?_, ?_⟩
          · rw [List.length_map, List.length_map]
            have h1 := List.length_filter_le (fun e : Ent => ownB least mk e.ms) (l0.take i)
            rw [List.length_take] at h1
            exact small1000 (by omega)
          · rw [upd_ne ncD]
            exact hc3
          · rw [upd_same, tl _ hb, List.map_append]
            rfl
      · refine ⟨false, (by show V.bl (decide (least ≤ ((e.ms.map V.str).length : Int))) = _; rw [List.length_map, decide_eq_false hc1]), iteF ?_⟩
        refine iteF (no ?_)
        unfold ownB
        rw [decide_eq_false hc1, Bool.false_and]
    · rintro H3 ⟨s4, hc3, hD3⟩
      have lens : ((l0.map (·.nm)).map V.str).length = l0.length := by rw [List.length_map, List.length_map]
      rw [lens, List.take_length] at hD3
      obtain ⟨due, hdue⟩ : ∃ due : List Str, due = (l0.filter fun e => ownB least mk e.ms).map (·.nm) := ⟨_, rfl⟩
      rw [← hdue] at hD3
      have dueW : ∀ z ∈ due, WordS 12 z := fun z hz => by
        rw [hdue] at hz
        obtain ⟨e, he, rfl⟩ := List.mem_map.mp hz
        exact EO.nm e (hl0.subset (List.mem_filter.mp he).1)
      have same_due : ∀ l : List Ent, l.Perm es → sortedS (l.map (·.nm)) = true → ((l.filter fun e => ownB least mk e.ms).map fun e => V.str e.nm) = due.map V.str := fun l p so => by
        rw [sorted_ents EO.nd p hl0 so hsort, hdue, List.map_map]
        rfl
      have eqv1 : PyData.eqv (dtS due) (dtS due) = true := by
        rw [eqv_dtS]
        exact decide_eq_true rfl
      have shp : SeqAt.shaped (dtS due) = true := shaped_dtS dueW
      obtain ⟨dx, r, lim, wd, day, b1, _, _⟩ := B.ex
      have X3 : Ext H H3 := Ext.trans X2 (Same.ext s4)
      have hd3 : H3 hd = some (.lst []) := s4 _ _ hd2
      have O3 : OwnAt H3 f hd least mk := O2.ext (Same.ext s4)
      have T3 : TabsN (TT K) H3 := tabs_same T2 s4
      have nDhd : D ≠ hd := fun z => by
        rw [z, hd2] at hDH2
        cases hDH2
      have ms8 : ∀ e ∈ es, e.ms.length ≤ 8 := fun e he => by
        have := EO.ml e he
        omega
      refine ⟨_, rfl, b, dx, _, rfl, X3.ins b1, rfl, _, rfl, b, dR, dS, f, hd, es, least, mk, [], H, rfl, EO.le, B, hhd, X3, O3, hd3, Nat.zero_le _, ms8, fun H4 D4 l4 cs4 hp4 so4 kp4 nD4 h4 hd4 nh4 nc4 ca4 => ?_⟩
      rw [same_due l4 hp4 so4] at h4
      rw [List.nil_append] at hd4
      have hdue4 : H4 D = some (.lst (due.map V.str)) := kp4 _ _ nDhd hD3
      refine ⟨_, rfl, dtS due, dtS due, dp_dtS (.inl (.inl h4)), dp_dtS (.inl (.inl hdue4)), shp, shp, false, (by rw [eqv1]; rfl), iteF ?_⟩
      have X4 : Ext H H4 := fun x o e n => kp4 x o (ne_of_none e hhd) (X3 x o e n)
      have O4 : OwnAt H4 f hd least mk := O3.keep fun x o e n1 _ => kp4 x o (fun z => by rw [z, hd3] at e; exact n1 _ (Option.some.inj e).symm) e
      have T4 : TabsN (TT K) H4 := tabs_keep T3 fun x o e n1 _ _ => kp4 x o (fun z => by rw [z, hd3] at e; exact n1 _ (Option.some.inj e).symm) e
      have cs4l : cs4.length ≤ 8 := by rw [ca4.len, hp4.length_eq]; exact EO.le
      refine ⟨_, rfl, b, dx, _, rfl, X4.ins b1, rfl, _, rfl, b, dR, dS, f, hd, es, least, mk, cs4.map V.ref, H, rfl, EO.le, B, hhd, X4, O4, hd4, (by rw [List.length_map]; omega), ms8, fun H5 D5 l5 cs5 hp5 so5 kp5 nD5 h5 hd5 nh5 nc5 ca5 => ?_⟩
      rw [same_due l5 hp5 so5] at h5
      have hdue5 : H5 D = some (.lst (due.map V.str)) := kp5 _ _ nDhd hdue4
      refine ⟨_, rfl, dtS due, dtS due, dp_dtS (.inl (.inl h5)), dp_dtS (.inl (.inl hdue5)), shp, shp, false, (by rw [eqv1]; rfl), iteF ?_⟩
      have X5 : Ext H H5 := fun x o e n => kp5 x o (ne_of_none e hhd) (X4 x o e n)
      have T5 : TabsN (TT K) H5 := tabs_keep T4 fun x o e n1 _ _ => kp5 x o (fun z => by rw [z, hd4] at e; exact n1 _ (Option.some.inj e).symm) e
      rw [← List.map_append] at hd5
      have ca : CopyAt H5 (cs4 ++ cs5) (l4 ++ l5) := CopyAt.join (ca4.keep fun c hc o e => kp5 c o (fun z => nh4 (by rw [← z]; exact hc)) e) ca5
      have lles : ∀ e ∈ l4 ++ l5, e ∈ es := fun e he => by
        rcases List.mem_append.mp he with h | h
        · exact hp4.subset h
        · exact hp5.subset h
      have esll : ∀ e ∈ es, e ∈ l4 ++ l5 := fun e he => List.mem_append.mpr (.inl (hp4.symm.subset he))
      obtain ⟨hs, hhs⟩ : ∃ hs, hs = cs4 ++ cs5 := ⟨_, rfl⟩
      obtain ⟨ll, hll⟩ : ∃ ll, ll = l4 ++ l5 := ⟨_, rfl⟩
      rw [← hhs] at hd5
      rw [← hhs, ← hll] at ca
      rw [← hll] at lles esll
      have K5 := KA.ext X5
      have nhk : hd ≠ kd := ne_of hd5 K5.dc (by intro z; cases z)
      have esW : ∀ l ∈ es.map (·.ms), ∀ z ∈ l, WordS 8 z := fun l hl z hz => by
        obtain ⟨e, he, rfl⟩ := List.mem_map.mp hl
        exact EO.mw e he z hz
      have shK : SeqAt.shaped (.list ((es.map (·.ms)).map dtS)) = true := shaped_dSs esW
      have shE : ∀ e ∈ es, SeqAt.shaped (dtS e.ms) = true := fun e he => shaped_dtS (EO.mw e he)
      have valsR : (kG g es).map (·.2) = (es.map fun e => g e.nm).map V.ref := by
        unfold kG
        rw [List.map_map, List.map_map]
        rfl
      have anyE : ∀ (l : List Ent) (e : Ent), e ∈ l → (((l.map (·.ms)).map dtS).any fun z => PyData.eqv z (dtS e.ms)) = true := fun l e he => by
        rw [List.any_eq_true]
        exact ⟨dtS e.ms, List.mem_map.mpr ⟨e.ms, List.mem_map.mpr ⟨e, he, rfl⟩, rfl⟩, by rw [eqv_dtS]; exact decide_eq_true rfl⟩
      refine ⟨_, rfl, hd, rfl, ⟨_, .inl (.inl hd5)⟩, ?_⟩
      refine for_list (K := K) (a := hd) (xs := hs.map V.ref) (fun i σ H' => ∃ y7, σ = [some (.ref b), some (.ref kd), some (.str mk), some (.int least), some (.ref hd), some (.ref f), some (.ref D), y7, none] ∧ Same H5 H')
        ⟨none, rfl, Same.refl H5⟩ (fun i σ H' _ ⟨_, _, s⟩ => .inl (.inl (s _ _ hd5))) ?_ ?_
      · rintro i x σ H6 hi ⟨y7, rfl, s6⟩
        rw [List.getElem?_map] at hi
        obtain ⟨cc, hcc, rfl⟩ := Option.map_eq_some_iff.mp hi
        obtain ⟨e, hel, hce⟩ := ca.get (List.mem_of_getElem? hcc)
        have hee := lles e hel
        refine ⟨_, rfl, _, rfl, kd, _, rfl, s6 _ _ K5.dc, fun p hp => ?_⟩
        have s7 : Same H5 (upd H6 p (.lst ((kG g es).map (·.2)))) := s6.trans (same_upd hp)
        refine ⟨dtS e.ms, (es.map (·.ms)).map dtS, dp_dtS (.inl (.inl (s7 _ _ hce))), .lst (.inl (.inl upd_same)) ?_, shE e hee, shK, false, ?_, iteF ?_⟩
        · rw [valsR]
          refine dp_dSs (by rw [List.length_map, List.length_map]) fun j c2 l2 h1 h2 => ?_
          rw [List.getElem?_map] at h1 h2
          obtain ⟨e1, g1, rfl⟩ := Option.map_eq_some_iff.mp h1
          obtain ⟨e2, g2, rfl⟩ := Option.map_eq_some_iff.mp h2
          rw [g1] at g2
          cases g2
          exact .inl (.inl (by rw [← valsR]; exact s7 _ _ (K5.ls e1 (List.mem_of_getElem? g1))))
        · rw [anyE es e hee]
          rfl
        · exact ⟨_, rfl, s7⟩
      · rintro σ H6 ⟨y7, rfl, s6⟩
        have s60 : Same H5 H6 := s6
        have dc6 : H6 kd = some (.dK (kG g es)) := s6 _ _ K5.dc
        refine ⟨kd, _, dc6, True.intro, fun od => ?_⟩
        have nk : ∀ (a : Addr) (xs : List V), H5 a = some (.lst xs) → a ≠ kd := fun a xs h => ne_of h K5.dc (by intro z; cases z)
        have kl : ∀ (a : Addr) (xs : List V), H5 a = some (.lst xs) → (upd H6 kd (.frz od (.dK (kG g es)))) a = some (.lst xs) := fun a xs h => by
          rw [upd_ne (nk a xs h)]
          exact s6 _ _ h
        refine ⟨_, rfl, kd, od, _, rfl, upd_same, fun D2 hD2 => ?_⟩
        have s7 : Same (upd H6 kd (.frz od (.dK (kG g es)))) (upd (upd H6 kd (.frz od (.dK (kG g es)))) D2 (.lst [])) := same_upd hD2
        have gl : (kG g es).length = es.length := by
          unfold kG
          rw [List.length_map]
        have es8 := EO.le
        refine lc_it (walk_values (d := kd) (o := od) (kvs := kG g es)) (fun j H' => Same (upd H6 kd (.frz od (.dK (kG g es)))) H' ∧ H' D2 = some (.lst (((es.take j).map fun _ => true).map V.bl))) ⟨s7, upd_same⟩ (fun j H' _ ⟨s, _⟩ => s _ _ upd_same) ?_ ?_
        · rintro j x H7 H8 hj ⟨s8, hD7⟩ ⟨rfl, k, hk⟩
          unfold kG at hk
          rw [List.getElem?_map] at hk
          obtain ⟨e, he, e2⟩ := Option.map_eq_some_iff.mp hk
          cases e2
          have hee : e ∈ es := List.mem_of_getElem? he
          refine ⟨rfl, _, rfl, _, rfl, dtS e.ms, (ll.map (·.ms)).map dtS, dp_dtS (.inl (.inl (s8 _ _ (kl _ _ (K5.ls e hee))))), .lst (.inl (.inl (s8 _ _ (kl _ _ hd5)))) ?_, shE e hee, ?_, _, hD7, ?_, same_write s8 hD2, ?_⟩
          · refine dp_dSs (by rw [ca.len, List.length_map]) fun i c2 l2 h1 h2 => ?_
            rw [List.getElem?_map] at h2
            obtain ⟨e3, g3, rfl⟩ := Option.map_eq_some_iff.mp h2
            exact .inl (.inl (s8 _ _ (kl _ _ (ca.at h1 g3))))
          · refine shaped_dSs (n := 8) fun l hl z hz => ?_
            obtain ⟨e3, h3, rfl⟩ := List.mem_map.mp hl
            exact EO.mw e3 (lles e3 h3) z hz
          · rw [List.length_map, List.length_map, List.length_take]
            exact small1000 (by omega)
          · rw [upd_same, anyE ll e (esll e hee), List.take_add_one, he, List.map_append, List.map_append]
            rfl
        · rintro H7 ⟨s8, hD7⟩
          rw [gl, List.take_length] at hD7
          refine ⟨s8 _ _ upd_same, ?_⟩
          have s9 : Same H6 (upd H7 kd (.dK (kG g es))) := same_unlock dc6 s8
          have nD2 : D2 ≠ kd := (ne_of_none upd_same hD2).symm
          refine ⟨D2, es.map fun _ => true, rfl, .inl (.inl (by rw [upd_ne nD2]; exact hD7)), ?_⟩
          have hall : (es.map fun _ => true).all id = true := by
            rw [List.all_map, List.all_eq_true]
            exact fun _ _ => rfl
          rw [hall]
          exact q _ (Ext.trans X5 (Same.ext (s6.trans s9))) (tabs_same (tabs_same T5 s6) s9)
end
end Th
end D14
section D15
namespace Th
open PySem PySem.Spec PyProof.Rows L2 NdefX LamX Clo
section
variable {P : Program} {w : World} {K : PySem.W.Frag} {mg : Str → Option Value} {base : Heap}
abbrev N_lb : List Str := ["_law_script", "_law_one", "_law_book_here", "_law_kept", "_law_k", "_law_number", "_law_name_here", "_law_marks", "_law_j"]
theorem sc_lb : FnScope N_lb ["_law_script"] (defScope s_book) := ⟨rfl, rfl, rfl, by decide +kernel, rfl, by decide +kernel, by decide +kernel⟩
def sp_lb (K : PySem.W.Frag) : Sp := fun vs H Q _ => ∃ (a : Addr) (ns : List Int), vs = [.ref a] ∧ SqL K H a (ns.map V.int) ∧
  ∀ (H' : Hp) (t b dR dS kd : Addr) (es : List Ent) (g : Str → Addr), Same H H' → H' t = some (.tup [.ref b, .ref kd]) → BookAt K H' b dR dS es → KeptAt H' kd es g → EntsOk es → dR ≠ kd → dS ≠ kd → Q (.ref t) H'
theorem BookAt.keep {H H' : Hp} {b dR dS kd : Addr} {es : List Ent} {kv : List (Key × V)} (B : BookAt K H b dR dS es) (hk : H kd = some (.dK kv)) (n1 : dR ≠ kd) (n2 : dS ≠ kd) (e : ∀ c o, H c = some o → c ≠ kd → H' c = some o) : BookAt K H' b dR dS es := by
  obtain ⟨dx, r, lim, wd, day, h1, R, h2⟩ := B.ex
  obtain ⟨dr, l, t, r1, r2, r3⟩ := R.ex
  have nL : ∀ (c : Addr) (xs : List V), H c = some (.lst xs) → H' c = some (.lst xs) := fun c xs h => e c _ h (ne_of h hk (by intro z; cases z))
  exact ⟨⟨dx, r, lim, wd, day, e _ _ h1 (ne_of h1 hk (by intro z; cases z)), ⟨⟨dr, l, t, e _ _ r1 (ne_of r1 hk (by intro z; cases z)), nL _ _ r2, e _ _ r3 (ne_of r3 hk (by intro z; cases z))⟩, R.lo, R.hi⟩, nL _ _ h2⟩, e _ _ B.hR n1, e _ _ B.hS n2, B.ne, fun x hx => nL _ _ (B.ls x hx), B.nd⟩
def mkS (one : Int) (j : Nat) : Str := SX.S (markL one (0 + (j : Int)))
theorem mkS_word (one : Int) (j : Nat) : WordS 8 (mkS one j) := markL_word one _
structure MarksOk (ms : List Str) : Prop where
  le : ms.length ≤ 3
  nd : ms.Nodup
  wd : ∀ m ∈ ms, WordS 8 m
theorem cut3 (xs : List V) : cutV xs none (some 3) = xs.take 3 := by
  unfold cutV
  rw [HT.sIx_none, show (some (3 : Int)) = some ((3 : Nat) : Int) from rfl, HT.sIx_nat, List.drop_zero, Nat.sub_zero]
  by_cases h : 3 ≤ xs.length
  · rw [Nat.min_eq_left h]
  · rw [Nat.min_eq_right (by omega), List.take_length, List.take_of_length_le (by omega)]
theorem ok_lb (T : Tx K mg) : C8.Cal P w K mg base 8 "_law_book" (sp_lb K) [] := by
  obtain ⟨fd, F⟩ := T.d_law_book
  have CL : C8.Cal P w K mg base 1 "_law_cell_at" (sp_cell K) [] := ok_cell T
  have CM : C8.Cal P w K mg base 1 "_law_mixed" sp_mixed [] := ok_mixed T
  have CN : C8.Cal P w K mg base 2 "_law_name" sp_name [] := ok_name T
  have CK : C8.Cal P w K mg base 2 "_law_mark" sp_mark [] := ok_mark T
  have CB : C8.Mak P w K mg base 3 "Book" (cBook K) (sp_bookI K) [] := ok_bookI T
  have CR : C8.Mak P w K mg base 1 "Rule" (cRule K) (sp_ruleI K) [.non] := ok_ruleI T
  have CE : C8.Met P w K mg base 7 (cBook K) "enrol" (sp_enrol K) [] := ok_enrol T
  refine cal_of F T.g_law_book (F.bindsN (ps := ["_law_script"]) fun _ _ _ _ _ _ us hl => match us, hl with | [_], _ => rfl) .nil sc_lb (fun vs H Q E h => ?_) (fun cdv A outer s H vs Q E hr h => ?_)
  · obtain ⟨a, ns, rfl, _⟩ := h
    rfl
  · obtain ⟨a, ns, rfl, ha, q⟩ := h
    have hu := hu_of hr
    refine ⟨_, pss_cons (ps_set (i := 1) sc_lb.nd rfl (.inr rfl) (C8.pe_c CL hr (by decide) rfl (pa_cons (pv 0) (pa_cons pe_int pa_nil))))
      (pss_cons (ps_set (i := 2) sc_lb.nd rfl (.inl rfl) (C8.pe_mk CB hr (by decide) rfl (pa_cons (C8.pe_mk CR hr (by decide) rfl (pa_cons (pe_lst (pa_cons (pe_tup (pa_cons pe_int (pa_cons (pe_op op_add pe_int (pe_op op_mod (pv 1) pe_int)) pa_nil))) pa_nil)) pa_nil)) (pa_cons (pe_op op_mod (pv 1) (pe_op op_pow pe_int pe_int)) pa_nil))))
      (pss_cons (ps_set (i := 3) sc_lb.nd rfl (.inl rfl) pe_dnewK)
      (pss_cons (ps_for PassesOwn.never rfl (pi_range1 rfl T.z_range (pa_cons (pe_op op_mod (C8.pe_c CM hr (by decide) rfl (pa_cons (pv 1) (pa_cons pe_int pa_nil))) pe_int) pa_nil)) (pg_name (i := 4) sc_lb.nd rfl (.inl rfl))
        (pss_cons (ps_set (i := 5) sc_lb.nd rfl (.inr rfl) (C8.pe_c CL hr (by decide) rfl (pa_cons (pv 0) (pa_cons (pe_op op_add pe_int (pv 4)) pa_nil))))
        (pss_cons (ps_set (i := 6) sc_lb.nd rfl (.inl rfl) (C8.pe_c CN hr (by decide) rfl (pa_cons (pv 1) (pa_cons (pe_op op_mod (pe_op op_add (pe_op op_mul (pv 4) pe_int) (pv 5)) pe_int) pa_nil))))
        (pss_cons (ps_set (i := 7) sc_lb.nd rfl (.inl rfl) (pe_slice sl_list (pe_lc (own := [("_law_j", 8)]) (g := gName 8) rfl sc_lb.nd (pi_range1 rfl T.z_range (pa_cons pe_int pa_nil)) (blkOk_by (N := N_lb) (sc := defScope s_book) (by decide +kernel))
          (fun _ _ _ _ _ => pg_name (i := 8) sc_lb.nd rfl (Or.inl rfl))
          (fun _ _ _ _ _ => pts_one (pt_cmpR op_eq (pe_op op_mod (C8.pe_c CM hr (by decide) rfl (pa_cons (pv 5) (pa_cons (pe_op op_add pe_int (pv 8)) pa_nil))) pe_int) pe_int (nomark _)))
          (fun _ _ _ _ _ => C8.pe_c CK hr (by decide) rfl (pa_cons (pv 1) (pa_cons (pv 8) pa_nil)))) po_none (po_some pe_int)))
        (C8.pss_cut (ps_if (pt_cmpR op_eq (pe_op op_mod (C8.pe_c CM hr (by decide) rfl (pa_cons (pv 5) (pa_cons pe_int pa_nil))) pe_int) pe_int (nomark _)) (pss_one (ps_set (i := 7) sc_lb.nd rfl (.inl rfl) (pe_revL (pv 7)))) pss_nil)
        (pss_one (ps_if (pt_cmp (pc_dnotin hu (pv 6) (pv 3))) (pss_cons (ps_dput hu (pv 3) (pv 6) (pe_callB cr_sortedS (by rfl) T.z_sorted (by decide +kernel) (pa_cons (pv 7) pa_nil)) rfl)
          (pss_one (ps_expr (C8.pe_mt CE hr (by decide) (pv 2) (pa_cons (pv 6) (pa_cons (pv 7) pa_nil)))))) pss_nil)))))))
      (pss_one (ps_ret (pe_tup (pa_cons (pv 2) (pa_cons (pv 3) pa_nil)))))))), ?_⟩
    obtain ⟨one, hone⟩ : ∃ one, one = cellN ns 0 := ⟨_, rfl⟩
    refine ⟨_, rfl, a, ns, 0, rfl, ha, ?_⟩
    rw [← hone]
    have h90 := Int.emod_nonneg one (show (9 : Int) ≠ 0 by decide)
    have h91 := Int.emod_lt_of_pos one (show (0 : Int) < 9 by decide)
    refine ⟨_, rfl, _, _, rfl, rfl, (by show (0 : Int) < 9; decide), _, _, rfl, rfl, (by show 2 ≤ sizeLine; decide), fun t ht => ⟨(by show 1 ≤ sizeLine; decide), fun l hl => fun x dx hx hdx ndx => ?_⟩⟩
    have st : Same H (upd H t (.tup [.int 0, .int (1 + one % 9)])) := same_upd ht
    have sl : Same H (upd (upd H t (.tup [.int 0, .int (1 + one % 9)])) l (.lst [.ref t])) := st.trans (same_upd hl)
    have ntl : t ≠ l := ne_of_none upd_same hl
    have sx : Same (upd (upd H t (.tup [.int 0, .int (1 + one % 9)])) l (.lst [.ref t])) (upd (upd (upd (upd H t (.tup [.int 0, .int (1 + one % 9)])) l (.lst [.ref t])) dx (.own x)) x (.ins (cRule K) dx [])) := same_write (same_upd hdx) hx
    refine ⟨x, dx, l, t, 1 + one % 9, rfl, upd_same, sx _ _ upd_same, sx _ _ (by rw [upd_ne ntl]; exact upd_same), by omega, by omega, fun H2 kp2 R2 => ⟨rfl, ?_⟩⟩
    have s2 : Same H H2 := fun c o e => kp2 c o (ne_of_none (sl c o e) hx) (sx c o (sl c o e))
    refine ⟨_, rfl, _, _, rfl, rfl, ⟨by decide, by decide, by decide⟩, _, _, rfl, rfl, (by show (0 : Int) < 10 ^ 30; decide), fun y dy hy hdy ndy => ?_⟩
    have sy : Same H2 (upd (upd H2 dy (.own y)) y (.ins (cBook K) dy [])) := same_write (same_upd hdy) hy
    refine ⟨y, dy, x, _, _, rfl, upd_same, R2.ext (Same.ext sy), fun H3 dR dS kp3 B3 nR nS => ⟨rfl, ?_⟩⟩
    have s3 : Same H H3 := fun c o e => kp3 c o (ne_of_none (s2 c o e) hy) (sy c o (s2 c o e))
    have hR : H dR = none := s2.free (sy.free nR)
    have hS : H dS = none := s2.free (sy.free nS)
    refine fun kd hkd => ?_
    have s4 : Same H (upd H3 kd (.dK [])) := s3.trans (same_upd hkd)
    have hK : H kd = none := s3.free hkd
    have n1 : dR ≠ kd := ne_of_none B3.hR hkd
    have n2 : dS ≠ kd := ne_of_none B3.hS hkd
    have hm0 := Int.emod_nonneg (mixed one 11) (show (9 : Int) ≠ 0 by decide)
    have hm1 := Int.emod_lt_of_pos (mixed one 11) (show (0 : Int) < 9 by decide)
    refine ⟨_, rfl, one, 11, rfl, _, _, rfl, rfl, (by show (0 : Int) < 9; decide), _, rfl, by omega, by omega, ?_⟩
    refine for_range (lo := 0) (n := (mixed one 11 % 9).toNat) (fun i σ H' => ∃ y4 y5 y6 y7 es g, σ = [some (.ref a), some (.int one), some (.ref y), some (.ref kd), y4, y5, y6, y7, none] ∧ Same H H' ∧ BookAt K H' y dR dS es ∧ KeptAt H' kd es g ∧ EntsOk es ∧ es.length ≤ i)
      ⟨none, none, none, none, [], fun _ => 0, rfl, s4, B3.ext (Same.ext (same_upd hkd)), ⟨upd_same, (fun e he => by cases he)⟩, ⟨List.nodup_nil, Nat.zero_le _, (fun e he => by cases he), (fun e he => by cases he), (fun e he => by cases he)⟩, Nat.le_refl _⟩ ?_ ?_
    · rintro i σ H5 hi ⟨y4, y5, y6, y7, es, g, rfl, s5, B5, K5, E5, l5⟩
      have hi8 : i < 8 + 1 := by omega
      obtain ⟨nb, hnb⟩ : ∃ nb, nb = cellN ns (2 + i) := ⟨_, rfl⟩
      refine ⟨_, rfl, _, rfl, _, _, rfl, rfl, a, ns, 2 + i, (by show [V.ref a, V.int (2 + (0 + (i : Int)))] = [V.ref a, V.int ((2 + i : Nat) : Int)]; rw [show (2 + (0 + (i : Int))) = ((2 + i : Nat) : Int) by omega]), s5.seq ha, ?_⟩
      rw [← hnb]
      refine ⟨_, rfl, _, rfl, _, _, rfl, rfl, .inr ⟨by decide, by decide⟩, _, rfl, _, _, rfl, rfl, _, _, rfl, rfl, (by show (0 : Int) < 26; decide), one, _, rfl, fun H6 s6 => ?_⟩
      have s56 : Same H H6 := s5.trans s6
      obtain ⟨kk, hkk⟩ : ∃ kk, kk = ((0 + (i : Int)) * 7 + nb) % 26 := ⟨_, rfl⟩
      have hmk : ∀ j : Int, WordS 8 (SX.S (markL one j)) := fun j => markL_word one j
      refine ⟨_, rfl, by decide, by decide, fun D hD => ?_⟩
      have s7 : Same H6 (upd H6 D (.lst [])) := same_upd hD
      refine lc_range (lo := 0) (n := (5 : Int).toNat) (fun j H' => Same H6 H' ∧ ∃ js : List Nat, H' D = some (.lst ((js.map (mkS one)).map V.str)) ∧ js.Nodup ∧ (∀ x ∈ js, x < j) ∧ js.length ≤ j) ⟨s7, [], upd_same, List.nodup_nil, (fun x hx => by cases hx), Nat.le_refl _⟩ ?_ ?_
      · rintro j H7 hj ⟨s8, js, hD7, jnd, jlt, jln⟩
        have hj5 : j < 5 := hj
        refine ⟨rfl, _, rfl, _, rfl, _, _, rfl, rfl, _, _, rfl, _, _, rfl, rfl, (by show (0 : Int) < 3; decide), rfl, _, rfl, ?_⟩
        refine ite2 (fun c => ?_) (fun c => ?_)
        · refine ⟨_, rfl, _, rfl, one, _, rfl, fun H8 s9 => ⟨_, s9 _ _ hD7, ?_, same_write (s8.trans s9) hD, js ++ [j], ?_, ?_, ?_, ?_⟩⟩
          · rw [List.length_map, List.length_map]
            exact small1000 (by omega)
          · rw [upd_same, List.map_append, List.map_append]
            rfl
          · rw [List.nodup_append]
            refine ⟨jnd, by simp, fun x hx y hy e => ?_⟩
            rw [List.mem_singleton] at hy
            have := jlt x hx
            omega
          · intro x hx
            rcases List.mem_append.mp hx with h | h
            · have := jlt x h
              omega
            · rw [List.mem_singleton] at h
              omega
          · rw [List.length_append, List.length_singleton]
            omega
        · exact ⟨s8, js, hD7, jnd, fun x hx => Nat.lt_succ_of_lt (jlt x hx), Nat.le_succ_of_le jln⟩
      · rintro H7 ⟨s8, js, hD7, jnd, jlt, jln⟩
        refine ⟨_, rfl, D, _, rfl, .inl (.inl hD7), fun p7 hp7 => ?_⟩
        rw [cut3, ← List.map_take]
        have s78 : Same H6 (upd H7 p7 (.lst (((js.map (mkS one)).take 3).map V.str))) := s8.trans (same_upd hp7)
        have MO : MarksOk ((js.map (mkS one)).take 3) := by
          refine ⟨by rw [List.length_take]; omega, ?_, fun m hm => ?_⟩
          · refine List.Pairwise.sublist (List.take_sublist _ _) ?_
            rw [List.pairwise_map]
            refine List.Pairwise.imp_of_mem (fun {x y} hx hy n e => n ?_) jnd
            have hx5 : x < 5 := jlt x hx
            have hy5 : y < 5 := jlt y hy
            have e2 : 0 + (x : Int) = 0 + (y : Int) := markL_ne (by omega) (by omega) (SX.S_inj e)
            omega
          · obtain ⟨j, _, rfl⟩ := List.mem_map.mp (List.mem_of_mem_take hm)
            exact mkS_word one j
        obtain ⟨z, hz⟩ : ∃ z, z = SX.S (nameL one (((0 + (i : Int)) * 7 + nb) % 26)) := ⟨_, rfl⟩
        have zW : WordS 12 z := by
          rw [hz]
          exact nameL_word one _
        rw [← hz]
        refine ⟨fun σ H' => ∃ p ms, σ = [some (.ref a), some (.int one), some (.ref y), some (.ref kd), some (.int (0 + (i : Int))), some (.int nb), some (.str z), some (.ref p), none] ∧ Same H6 H' ∧ H' p = some (.lst (ms.map V.str)) ∧ MarksOk ms, ?_, ?_⟩
        · refine ⟨_, rfl, _, _, rfl, _, _, rfl, rfl, (by show (0 : Int) < 2; decide), rfl, _, rfl, ?_⟩
          refine ite2 (fun c => ?_) (fun c => ?_)
          · refine ⟨_, rfl, p7, _, rfl, .inl (.inl upd_same), fun p8 hp8 => ⟨p8, ((js.map (mkS one)).take 3).reverse, rfl, s78.trans (same_upd hp8), ?_, ?_, ?_, ?_⟩⟩
            · rw [upd_same, List.map_reverse]
            · rw [List.length_reverse]
              exact MO.le
            · exact (List.reverse_perm _).symm.nodup MO.nd
            · exact fun m hm => MO.wd m (List.mem_reverse.mp hm)
          · exact ⟨p7, _, rfl, s78, upd_same, MO⟩
        · rintro σ H8 ⟨p, ms, rfl, s9, hp, M⟩
          have s68 : Same H H8 := s56.trans s9
          have s58 : Same H5 H8 := s6.trans s9
          have B8 := B5.ext (Same.ext s58)
          have K8 := K5.ext (Same.ext s58)
          have no : z ∈ es.map (·.nm) → ∃ y4 y5 y6 y7 es g, [some (V.ref a), some (.int one), some (.ref y), some (.ref kd), some (.int (0 + (i : Int))), some (.int nb), some (.str z), some (.ref p), none] = [some (.ref a), some (.int one), some (.ref y), some (.ref kd), y4, y5, y6, y7, none] ∧ Same H H8 ∧ BookAt K H8 y dR dS es ∧ KeptAt H8 kd es g ∧ EntsOk es ∧ es.length ≤ i + 1 := fun _ =>
            ⟨_, _, _, _, es, g, rfl, s68, B8, K8, E5, Nat.le_succ_of_le l5⟩
          by_cases hzm : z ∈ es.map (·.nm)
          · obtain ⟨e, he, ez⟩ := List.mem_map.mp hzm
            refine ⟨_, rfl, _, rfl, kd, _, rfl, DGet.k (k := Sum.inr z) K8.dc, false, ?_, iteF (no hzm)⟩
            rw [← ez, valG E5.nd he]
            rfl
          · refine ⟨_, rfl, _, rfl, kd, _, rfl, DGet.k (k := Sum.inr z) K8.dc, true, (by rw [valG_no hzm]; rfl), iteT ?_⟩
            have Mle := M.le
            refine ⟨_, rfl, p, ms, rfl, .inl (.inl hp), by omega, fun ys qd hperm hsort hqd => ?_⟩
            have s89 : Same H8 (upd H8 qd (.lst (ys.map V.str))) := same_upd hqd
            have lenK : (kG g es).length < sizeLine := by
              unfold kG
              rw [List.length_map]
              exact small1000 (by omega)
            have K9 := K8.ext (Same.ext s89)
            refine ⟨_, rfl, _, rfl, kd, _, rfl, DPut.k (k := Sum.inr z) K9.dc lenK, ?_⟩
            rw [putK_new _ (valG_no hzm)]
            have B9 := B8.ext (Same.ext s89)
            have kp10 : ∀ c o, (upd H8 qd (.lst (ys.map V.str))) c = some o → c ≠ kd → (upd (upd H8 qd (.lst (ys.map V.str))) kd (.dK (kG g es ++ [(Sum.inr z, V.ref qd)]))) c = some o := fun c o e n => by
              rw [upd_ne n]
              exact e
            have B10 : BookAt K (upd (upd H8 qd (.lst (ys.map V.str))) kd (.dK (kG g es ++ [(Sum.inr z, V.ref qd)]))) y dR dS es := B9.keep K9.dc n1 n2 kp10
            have lst10 : ∀ (c : Addr) (xs : List V), (upd H8 qd (.lst (ys.map V.str))) c = some (.lst xs) → (upd (upd H8 qd (.lst (ys.map V.str))) kd (.dK (kG g es ++ [(Sum.inr z, V.ref qd)]))) c = some (.lst xs) := fun c xs h => kp10 c _ h (ne_of h K9.dc (by intro z; cases z))
            obtain ⟨dxb, rb, limb, wdb, dayb, hb10, _, _⟩ := B10.ex
            refine ⟨_, rfl, y, dxb, _, rfl, hb10, rfl, _, rfl, _, rfl, y, dR, dS, p, z, ms, es, rfl, B10, zW, hzm, by omega, .inl (.inl (lst10 _ _ (s89 _ _ hp))), by omega, M.wd, M.nd, fun H11 xr p2 ys2 kp11 hperm2 hsort2 B11 => ?_⟩
            have eys : ys = ys2 := sorted_one (hperm.trans hperm2.symm) hsort hsort2
            have s10 : Same H (upd (upd H8 qd (.lst (ys.map V.str))) kd (.dK (kG g es ++ [(Sum.inr z, V.ref qd)]))) := same_write (s68.trans s89) hK
            have lst11 : ∀ (c : Addr) (xs : List V), (upd H8 qd (.lst (ys.map V.str))) c = some (.lst xs) → H11 c = some (.lst xs) := fun c xs h => kp11 c _ (lst10 c xs h) (ne_of (lst10 c xs h) B10.hR (by intro z; cases z)) (ne_of (lst10 c xs h) B10.hS (by intro z; cases z))
            have gz : ∀ e ∈ es, (if e.nm = z then qd else g e.nm) = g e.nm := fun e he => if_neg fun q => hzm (List.mem_map.mpr ⟨e, he, q⟩)
            refine ⟨_, _, _, _, es ++ [⟨z, ys2, xr, p2⟩], fun n => if n = z then qd else g n, rfl, fun c o e => kp11 c o (s10 c o e) (ne_of_none e hR) (ne_of_none e hS), B11, ⟨?_, ?_⟩, ⟨B11.nd, ?_, ?_, ?_, ?_⟩, ?_⟩
            · rw [kp11 kd _ upd_same n1.symm n2.symm]
              unfold kG
              rw [List.map_append]
              congr 2
              congr 1
              · exact List.map_congr_left fun e he => by show (Sum.inr e.nm, V.ref (g e.nm)) = (Sum.inr e.nm, V.ref (if e.nm = z then qd else g e.nm)); rw [gz e he]
              · show [(Sum.inr z, V.ref qd)] = [(Sum.inr z, V.ref (if z = z then qd else g z))]
                rw [if_pos rfl]
            · intro e he
              rcases List.mem_append.mp he with h | h
              · show H11 (if e.nm = z then qd else g e.nm) = _
                rw [gz e h]
                exact lst11 _ _ (K9.ls e h)
              · rw [List.mem_singleton.mp h]
                show H11 (if z = z then qd else g z) = _
                rw [if_pos rfl]
                show H11 qd = some (.lst (ys2.map V.str))
                rw [← eys]
                exact lst11 _ _ upd_same
            · rw [List.length_append, List.length_singleton]
              omega
            · intro e he
              rcases List.mem_append.mp he with h | h
              · exact E5.nm e h
              · rw [List.mem_singleton.mp h]
                exact zW
            · intro e he
              rcases List.mem_append.mp he with h | h
              · exact E5.ml e h
              · rw [List.mem_singleton.mp h]
                show ys2.length ≤ 3
                rw [hperm2.length_eq]
                exact Mle
            · intro e he
              rcases List.mem_append.mp he with h | h
              · exact E5.mw e h
              · rw [List.mem_singleton.mp h]
                exact fun m hm => M.wd m (hperm2.subset hm)
            · rw [List.length_append, List.length_singleton]
              omega
    · rintro σ H5 ⟨y4, y5, y6, y7, es, g, rfl, s5, B5, K5, E5, l5⟩
      refine ⟨_, rfl, _, rfl, (by show 2 ≤ sizeLine; decide), fun t2 ht2 => ?_⟩
      have s6 : Same H5 (upd H5 t2 (.tup [.ref y, .ref kd])) := same_upd ht2
      exact q _ t2 y dR dS kd es g (s5.trans s6) upd_same (B5.ext (Same.ext s6)) (K5.ext (Same.ext s6)) E5 n1 n2
end
end Th
end D15
section D16
namespace Th
open PySem PySem.Spec PyProof.Rows L2 NdefX LamX Clo
section
variable {P : Program} {w : World} {K : PySem.W.Frag} {mg : Str → Option Value} {base : Heap}
abbrev N_law : List Str := ["_law_script", "_law_book_here", "_law_kept", "_law_one", "_law_k", "_law_number", "_law_marks", "_law_signs", "_law_name_here"]
theorem sc_law : FnScope N_law ["_law_script"] (defScope s_law) := ⟨rfl, rfl, rfl, by decide +kernel, rfl, by decide +kernel, by decide +kernel⟩
def sp_law (K : PySem.W.Frag) : Sp := fun vs H Q _ => ∃ (a : Addr) (ns : List Int), vs = [.ref a] ∧ SqL K H a (ns.map V.int) ∧ TabsN (TT K) H ∧ ∀ H', Q (.bl true) H'
theorem cutTo (xs : List V) {k : Int} (h : 0 ≤ k) : cutV xs none (some k) = xs.take k.toNat := by
  obtain ⟨n, rfl⟩ := Int.eq_ofNat_of_zero_le h
  unfold cutV
  rw [HT.sIx_none, HT.sIx_nat, List.drop_zero, Nat.sub_zero, Int.toNat_natCast]
  by_cases h : n ≤ xs.length
  · rw [Nat.min_eq_left h]
  · rw [Nat.min_eq_right (by omega), List.take_length, List.take_of_length_le (by omega)]
theorem sign3 {i : Int} (h0 : 0 ≤ i) (h1 : i < 3) : ∃ s : Str, atI [V.str noneS, V.str noneS, V.str minusS] i = some (.str s) ∧ (s = noneS ∨ s = minusS) := by
  obtain ⟨n, rfl⟩ := Int.eq_ofNat_of_zero_le h0
  match n, h1 with
  | 0, _ => exact ⟨noneS, rfl, .inl rfl⟩
  | 1, _ => exact ⟨noneS, rfl, .inl rfl⟩
  | 2, _ => exact ⟨minusS, rfl, .inr rfl⟩
  | n + 3, h => exact absurd h (by omega)
theorem sign2 {i : Int} (h0 : 0 ≤ i) (h1 : i < 2) : ∃ s : Str, atI [V.str noneS, V.str minusS] i = some (.str s) ∧ (s = noneS ∨ s = minusS) := by
  obtain ⟨n, rfl⟩ := Int.eq_ofNat_of_zero_le h0
  match n, h1 with
  | 0, _ => exact ⟨noneS, rfl, .inl rfl⟩
  | 1, _ => exact ⟨minusS, rfl, .inr rfl⟩
  | n + 2, h => exact absurd h (by omega)
theorem body_law (T : Tx K mg) (TF : TabF K base mg) (f : Addr) : BodyOk P w K mg base 8 N_law "law" s_law f (sp_law K) := by
  have CL : C8.Cal P w K mg base 1 "_law_cell_at" (sp_cell K) [] := ok_cell T
  have CM : C8.Cal P w K mg base 1 "_law_mixed" sp_mixed [] := ok_mixed T
  have CK : C8.Cal P w K mg base 2 "_law_mark" sp_mark [] := ok_mark T
  have CB : C8.Cal P w K mg base 8 "_law_book" (sp_lb K) [] := ok_lb T
  have CT : C8.Cal P w K mg base 4 "_law_by_text" (sp_bt K) [] := ok_bt T TF
  have CO : C8.Cal P w K mg base 4 "_law_by_own" (sp_bo K) [] := ok_bo T TF
  have MM : C8.Met P w K mg base 2 (cBook K) "marks" (sp_marks K) [] := ok_marks T
  have MN : C8.Met P w K mg base 1 (cBook K) "names" (sp_names K) [] := ok_names T
  intro cdv A outer s H vs Q E hr h
  obtain ⟨a, ns, rfl, ha, hT, q⟩ := h
  refine ⟨_, pss_cons (ps_asg (C8.pe_c CB hr (by decide) rfl (pa_cons (pv 0) pa_nil)) (pg_tup rfl (pgs_cons (pg_name (i := 1) sc_law.nd rfl (.inl rfl)) (pgs_cons (pg_name (i := 2) sc_law.nd rfl (.inl rfl)) pgs_nil))))
    (pss_cons (ps_set (i := 3) sc_law.nd rfl (.inl rfl) (C8.pe_c CL hr (by decide) rfl (pa_cons (pv 0) (pa_cons pe_int pa_nil))))
    (pss_cons (ps_for PassesOwn.never rfl (pi_range1 rfl T.z_range (pa_cons pe_int pa_nil)) (pg_name (i := 4) sc_law.nd rfl (.inl rfl))
      (pss_cons (ps_set (i := 5) sc_law.nd rfl (.inl rfl) (C8.pe_c CM hr (by decide) rfl (pa_cons (C8.pe_c CL hr (by decide) rfl (pa_cons (pv 0) (pa_cons pe_int pa_nil))) (pa_cons (pv 4) pa_nil))))
      (pss_cons (ps_set (i := 6) sc_law.nd rfl (.inl rfl) (pe_slice sl_list (pe_lst (pa_cons (C8.pe_c CK hr (by decide) rfl (pa_cons (pv 3) (pa_cons (pe_op op_mod (pv 5) pe_int) pa_nil))) (pa_cons (C8.pe_c CK hr (by decide) rfl (pa_cons (pv 3) (pa_cons (pe_op op_mod (pe_op op_fdiv (pv 5) pe_int) pe_int) pa_nil))) pa_nil))) po_none (po_some (pe_op op_mod (pe_op op_fdiv (pv 5) pe_int) pe_int))))
      (pss_cons (ps_set (i := 7) sc_law.nd rfl (.inl rfl) (pe_lst (pa_cons (pe_ix ix_list (pe_lst (pa_cons pe_str (pa_cons pe_str (pa_cons pe_str pa_nil)))) (pe_op op_mod (pe_op op_fdiv (pv 5) pe_int) pe_int) (fun _ _ => rfl)) (pa_cons (pe_ix ix_list (pe_lst (pa_cons pe_str (pa_cons pe_str pa_nil))) (pe_op op_mod (pe_op op_fdiv (pv 5) pe_int) pe_int) (fun _ _ => rfl)) pa_nil))))
      (pss_cons (ps_if (pt_not (pt_val (C8.pe_c CT hr (by decide) rfl (pa_cons (pv 1) (pa_cons (pv 2) (pa_cons (pv 6) (pa_cons (pv 7) pa_nil))))))) (pss_one ps_never) pss_nil)
      (pss_one (ps_if (pt_not (pt_val (C8.pe_c CO hr (by decide) rfl (pa_cons (pv 1) (pa_cons (pv 2) (pa_cons (C8.pe_c CK hr (by decide) rfl (pa_cons (pv 3) (pa_cons (pe_op op_mod (pv 5) pe_int) pa_nil))) (pa_cons (pe_op op_mod (pe_op op_fdiv (pv 5) pe_int) pe_int) pa_nil))))))) (pss_one ps_never) pss_nil)))))))
    (pss_cons (ps_lock (ps_for PassesOwn.never rfl (pi_items (pv 2)) (pg_tup rfl (pgs_cons (pg_name (i := 8) sc_law.nd rfl (.inl rfl)) (pgs_cons (pg_name (i := 6) sc_law.nd rfl (.inl rfl)) pgs_nil)))
      (pss_one (ps_if (pt_cmpR (op_neD hr.units) (C8.pe_mt MM hr (by decide) (pv 1) (pa_cons (pv 8) pa_nil)) (pv 6) (nomark _)) (pss_one ps_never) pss_nil))))
    (pss_one (ps_ret (pe_cmpR (op_eqD hr.units) (C8.pe_mt0 MN hr (by decide) (pv 1)) (pe_callB (call_sortedD rfl) (by rfl) T.z_sorted (by decide +kernel) (pa_cons (pv 2) pa_nil)) (nomark _))))))), ?_⟩
  refine ⟨_, rfl, a, ns, rfl, ha, fun H1 t b dR dS kd es g s1 ht B KA EO n1 n2 => ?_⟩
  refine ⟨t, _, rfl, .inl (.inl ht), rfl, _, _, rfl, _, _, rfl, rfl, ?_⟩
  obtain ⟨one, hone⟩ : ∃ one, one = cellN ns 0 := ⟨_, rfl⟩
  obtain ⟨two, htwo⟩ : ∃ two, two = cellN ns 1 := ⟨_, rfl⟩
  have ha1 := s1.seq ha
  refine ⟨_, rfl, a, ns, 0, rfl, ha1, ?_⟩
  rw [← hone]
  refine ⟨_, rfl, by decide, by decide, ?_⟩
  refine for_range (lo := 0) (n := (4 : Int).toNat) (fun i σ H' => ∃ y4 y5 y6 y7, σ = [some (.ref a), some (.ref b), some (.ref kd), some (.int one), y4, y5, y6, y7, none] ∧ Ext H1 H' ∧ TabsN (TT K) H')
    ⟨none, none, none, none, rfl, Ext.refl H1, tabs_same hT s1⟩ ?_ ?_
  · rintro i σ H2 hi ⟨y4, y5, y6, y7, rfl, X2, T2⟩
    refine ⟨_, rfl, a, ns, 1, rfl, X2.seq ha1, _, rfl, _, _, rfl, ?_⟩
    rw [← htwo]
    obtain ⟨nb, hnb⟩ : ∃ nb, nb = mixed two (0 + (i : Int)) := ⟨_, rfl⟩
    rw [← hnb]
    refine ⟨_, rfl, _, rfl, _, _, rfl, rfl, (by show (0 : Int) < 6; decide), one, _, rfl, fun H3 s3 => ?_⟩
    refine ⟨_, rfl, _, rfl, _, _, rfl, rfl, ⟨by decide, by decide⟩, _, _, rfl, rfl, (by show (0 : Int) < 6; decide), one, _, rfl, fun H4 s4 => ⟨(by show 2 ≤ sizeLine; decide), fun p4 hp4 => ?_⟩⟩
    have s24 : Same H2 H4 := s3.trans s4
    have s25 : Same H2 (upd H4 p4 (.lst [.str (SX.S (markL one (nb % 6))), .str (SX.S (markL one (nb / 6 % 6)))])) := s24.trans (same_upd hp4)
    have h30 := Int.emod_nonneg (nb / 36) (show (3 : Int) ≠ 0 by decide)
    refine ⟨_, rfl, _, _, rfl, rfl, ⟨by decide, by decide⟩, _, _, rfl, rfl, (by show (0 : Int) < 3; decide), _, rfl, p4, [.str (SX.S (markL one (nb % 6))), .str (SX.S (markL one (nb / 6 % 6)))], rfl, .inl (.inl upd_same), fun wa hwa => ?_⟩
    have ew : cutV [V.str (SX.S (markL one (nb % 6))), V.str (SX.S (markL one (nb / 6 % 6)))] none (some (nb / 36 % 3)) = ([SX.S (markL one (nb % 6)), SX.S (markL one (nb / 6 % 6))].take (nb / 36 % 3).toNat).map V.str := by
      rw [cutTo _ h30, List.map_take]
      rfl
    rw [ew]
    obtain ⟨ws, hws⟩ : ∃ ws, ws = [SX.S (markL one (nb % 6)), SX.S (markL one (nb / 6 % 6))].take (nb / 36 % 3).toNat := ⟨_, rfl⟩
    rw [← hws]
    have ws2 : ws.length ≤ 2 := by
      rw [hws, List.length_take]
      exact Nat.min_le_right _ _
    have wsW : ∀ m ∈ ws, WordS 8 m := fun m hm => by
      rw [hws] at hm
      have h2 := List.mem_of_mem_take hm
      rcases List.mem_cons.mp h2 with e | h2
      · rw [e]
        exact markL_word one _
      · rw [List.mem_singleton.mp h2]
        exact markL_word one _
    have s26 := s25.trans (same_upd (o := .lst (ws.map V.str)) hwa)
    obtain ⟨g1, hg1, hs1⟩ := sign3 (Int.emod_nonneg (nb / 108) (show (3 : Int) ≠ 0 by decide)) (Int.emod_lt_of_pos (nb / 108) (show (0 : Int) < 3 by decide))
    obtain ⟨g2, hg2, hs2⟩ := sign2 (Int.emod_nonneg (nb / 324) (show (2 : Int) ≠ 0 by decide)) (Int.emod_lt_of_pos (nb / 324) (show (0 : Int) < 2 by decide))
    refine ⟨(by show 3 ≤ sizeLine; decide), fun l1 hl1 => ?_⟩
    have s27 := s26.trans (same_upd (o := .lst [.str noneS, .str noneS, .str minusS]) hl1)
    refine ⟨_, rfl, _, _, rfl, rfl, ⟨by decide, by decide⟩, _, _, rfl, rfl, (by show (0 : Int) < 3; decide), l1, _, _, .str g1, rfl, rfl, .inl (.inl upd_same), hg1, ?_⟩
    refine ⟨(by show 2 ≤ sizeLine; decide), fun l2 hl2 => ?_⟩
    have s28 := s27.trans (same_upd (o := .lst [.str noneS, .str minusS]) hl2)
    refine ⟨_, rfl, _, _, rfl, rfl, ⟨by decide, by decide⟩, _, _, rfl, rfl, (by show (0 : Int) < 2; decide), l2, _, _, .str g2, rfl, rfl, .inl (.inl upd_same), hg2, ?_⟩
    refine ⟨(by show 2 ≤ sizeLine; decide), fun sa hsa => ?_⟩
    have s29 := s28.trans (same_upd (o := .lst [.str g1, .str g2]) hsa)
    have w9 : (upd (upd (upd (upd (upd H4 p4 (.lst [.str (SX.S (markL one (nb % 6))), .str (SX.S (markL one (nb / 6 % 6)))])) wa (.lst (ws.map V.str))) l1 (.lst [.str noneS, .str noneS, .str minusS])) l2 (.lst [.str noneS, .str minusS])) sa (.lst [.str g1, .str g2])) wa = some (.lst (ws.map V.str)) :=
      ((same_upd (o := .lst [.str noneS, .str noneS, .str minusS]) hl1).trans ((same_upd (o := .lst [.str noneS, .str minusS]) hl2).trans (same_upd (o := .lst [.str g1, .str g2]) hsa))) _ _ upd_same
    have X9 := Ext.trans X2 (Same.ext s29)
    have T9 := tabs_same T2 s29
    refine ⟨_, rfl, _, rfl, _, rfl, _, rfl, b, dR, dS, kd, wa, sa, es, g, ws, [g1, g2], rfl, B.ext X9, KA.ext X9, EO, T9, .inl (.inl w9), .inl (.inl upd_same), ws2, Nat.le_refl _, wsW, (fun s hs => ?_), fun H10 X10 T10 => ⟨true, rfl, iteF ?_⟩⟩
    · rcases List.mem_cons.mp hs with e | hs
      · rw [e]
        exact hs1
      · rw [List.mem_singleton.mp hs]
        exact hs2
    · refine ⟨_, rfl, _, rfl, _, rfl, _, rfl, _, _, rfl, rfl, (by show (0 : Int) < 6; decide), one, _, rfl, fun H11 s11 => ?_⟩
      have X11 := Ext.trans X9 (Ext.trans X10 (Same.ext s11))
      refine ⟨_, rfl, _, _, rfl, rfl, ⟨by decide, by decide⟩, _, _, rfl, rfl, (by show (0 : Int) < 3; decide), b, dR, dS, kd, es, g, _, _, rfl, B.ext X11, KA.ext X11, EO, tabs_same T10 s11, fun H12 X12 T12 => ⟨true, rfl, iteF ?_⟩⟩
      exact ⟨_, _, _, _, rfl, Ext.trans X11 X12, T12⟩
  · rintro σ H2 ⟨y4, y5, y6, y7, rfl, X2, T2⟩
    have B2 := B.ext X2
    have K2 := KA.ext X2
    have gl : (kG g es).length = es.length := by
      unfold kG
      rw [List.length_map]
    have n1' : dR ≠ kd := n1
    have Bl : ∀ od, BookAt K (upd H2 kd (.frz od (.dK (kG g es)))) b dR dS es := fun od => B2.keep K2.dc n1 n2 fun c o e n => by
      rw [upd_ne n]
      exact e
    refine ⟨kd, _, K2.dc, trivial, fun od => ?_⟩
    have kl : ∀ (c : Addr) (xs : List V), H2 c = some (.lst xs) → (upd H2 kd (.frz od (.dK (kG g es)))) c = some (.lst xs) := fun c xs h => by
      rw [upd_ne (ne_of h K2.dc (by intro z; cases z))]
      exact h
    refine ⟨_, rfl, kd, od, kG g es, rfl, upd_same, ?_⟩
    refine for_it (walk_items (d := kd) (o := od) (kvs := kG g es)) (fun i σ H' => ∃ y4 y5 y6 y7 y8, σ = [some (.ref a), some (.ref b), some (.ref kd), some (.int one), y4, y5, y6, y7, y8] ∧ Same (upd H2 kd (.frz od (.dK (kG g es)))) H')
      ⟨_, _, _, _, _, rfl, Same.refl _⟩ (fun i σ H' _ ⟨_, _, _, _, _, _, s⟩ => s _ _ upd_same) ?_ ?_
    · rintro i x σ H3 H4 hi ⟨y4, y5, y6, y7, y8, rfl, s3⟩ ⟨tt, x1, x2, rfl, htt, rfl, e1, e2⟩
      have hi' : i < es.length := by
        rw [gl] at hi
        exact hi
      have hk : (kG g es)[i]? = some (Sum.inr es[i].nm, V.ref (g es[i].nm)) := by
        unfold kG
        rw [List.getElem?_map, List.getElem?_eq_getElem hi']
        rfl
      have ex1 : V.str es[i].nm = x1 := by
        have z : (kG g es)[i]?.map (fun kv => kV kv.1) = some x1 := e1
        rw [hk] at z
        exact Option.some.inj z
      have ex2 : V.ref (g es[i].nm) = x2 := by
        have z : (kG g es)[i]?.map Prod.snd = some x2 := e2
        rw [hk] at z
        exact Option.some.inj z
      subst ex1 ex2
      have hee : es[i] ∈ es := List.getElem_mem hi'
      obtain ⟨e, he⟩ : ∃ e, e = es[i] := ⟨_, rfl⟩
      rw [← he] at hee ⊢
      have s4 : Same (upd H2 kd (.frz od (.dK (kG g es)))) (upd H3 tt (.tup [V.str e.nm, V.ref (g e.nm)])) := s3.trans (same_upd htt)
      have B4 := (Bl od).ext (Same.ext s4)
      obtain ⟨dx, r, lim, wd, day, b1, _, _⟩ := B4.ex
      refine ⟨tt, _, rfl, .inl (.inl upd_same), rfl, _, _, rfl, _, _, rfl, rfl, ?_⟩
      refine ⟨_, rfl, b, dx, _, rfl, b1, rfl, _, rfl, b, dR, dS, es, e, rfl, B4, hee, fun p hp => ?_⟩
      have s5 := s4.trans (same_upd (o := .lst (e.ms.map V.str)) hp)
      have shp : SeqAt.shaped (dtS e.ms) = true := shaped_dtS (EO.mw e hee)
      have eqv1 : PyData.eqv (dtS e.ms) (dtS e.ms) = true := by
        rw [eqv_dtS]
        exact decide_eq_true rfl
      refine ⟨_, rfl, dtS e.ms, dtS e.ms, dp_dtS (.inl (.inl upd_same)), dp_dtS (.inl (.inl (s5 _ _ (kl _ _ (K2.ls e hee))))), shp, shp, false, (by rw [eqv1]; rfl), iteF ?_⟩
      exact ⟨_, _, _, _, _, rfl, s5⟩
    · rintro σ H3 ⟨y4, y5, y6, y7, y8, rfl, s3⟩
      refine ⟨s3 _ _ upd_same, ?_⟩
      have s6 : Same H2 (upd H3 kd (.dK (kG g es))) := same_unlock K2.dc s3
      have B6 := B2.ext (Same.ext s6)
      have K6 := K2.ext (Same.ext s6)
      obtain ⟨dx, r, lim, wd, day, b1, _, _⟩ := B6.ex
      refine ⟨_, rfl, b, dx, _, rfl, b1, rfl, b, dR, dS, es, rfl, B6, EO.le, fun p nl hperm hsort hp => ?_⟩
      have s7 := same_upd (o := .lst (nl.map V.str)) hp
      have K7 := K6.ext (Same.ext s7)
      refine ⟨_, rfl, kd, kG g es, es.map (·.nm), rfl, .inl K7.dc, (by unfold kG; rw [List.map_map, List.map_map]; rfl), (by rw [List.length_map]; have := EO.le; omega), fun ys p2 hperm2 hsort2 hp2 => ?_⟩
      have eys : nl = ys := sorted_one (hperm.trans hperm2.symm) hsort hsort2
      subst eys
      have s8 := same_upd (o := .lst (nl.map V.str)) hp2
      have shp : SeqAt.shaped (dtS nl) = true := shaped_dtS (n := 12) fun z hz => by
        obtain ⟨e, he, rfl⟩ := List.mem_map.mp (hperm.subset hz)
        exact EO.nm e he
      have eqv1 : PyData.eqv (dtS nl) (dtS nl) = true := by
        rw [eqv_dtS]
        exact decide_eq_true rfl
      refine ⟨dtS nl, dtS nl, dp_dtS (.inl (.inl (s8 _ _ upd_same))), dp_dtS (.inl (.inl upd_same)), shp, shp, ?_⟩
      rw [eqv1]
      exact q _
theorem ok_law (T : Tx K mg) (TF : TabF K base mg) {f : Addr} {fd : FuncData} (F : FunD K "law" "law" (defArgs s_law) (defBody s_law) (defScope s_law) [] [] f fd) : FnOk P w K mg base C8.CX0 9 f fd ["_law_script"] (sp_law K) :=
  fnok_of F sc_law (fun vs H Q E h => by
    obtain ⟨a, ns, rfl, _⟩ := h
    rfl) (body_law T TF f)
end
end Th
end D16
namespace Th
open PySem PySem.Spec PyProof.Rows L2 NdefX LamX Clo
theorem lawAt {w : World} {K : PySem.W.Frag} {h : Heap} {mg : Str → Option Value} {f : Addr} (X : K.In h) (G : h.Ns mainGlobals mg) (hfa : mg ("law" : Str) = some (.ref f)) (c : He.SaysX fa fn [] tf exK w h K) :
    LawAtS PySem.Challenge.rw_thinbook_k64_names_chosen w K C8.CX0 9 63 "_law_script" mg f h := by
  have T : Tx K mg := ⟨c.t.d, h, X, G⟩
  obtain ⟨fd, F⟩ := T.d_law
  have e := hfa.symm.trans T.g_law
  cases e
  have b := FunD.bindsA (ps := ["_law_script"]) F fun _ _ _ _ _ _ us hl => match us, hl with | [_], _ => rfl
  have mS : (("sieve", none) : He.Defn) ∈ tf := List.mem_cons_self
  have mO : (("_law_own", none) : He.Defn) ∈ tf := List.mem_cons_of_mem _ List.mem_cons_self
  have mm : ∀ p ∈ tf.map (He.cT K), ∃ d ∈ tf, He.cT K d = p := fun p hp => List.mem_map.mp hp
  have ne : (tS K).2 ≠ (tO K).2 := fun z => by
    have h1 := c.more
    unfold exK at h1
    rw [decide_eq_true (show (He.cT K ("sieve", none)).2 = (He.cT K ("_law_own", none)).2 from z)] at h1
    cases h1
  refine ⟨fd, tf.map (He.cT K), sp_law K, fun p hp => ?_, fun p hp => ?_, fun p hp => ?_, fun s v => b s [v] rfl, fun H a ns hl _ ht hS => ⟨a, ns, rfl, hS, fun p hp => ?_, fun _ => rfl⟩, fun base _ _ tb => ok_law T ⟨tb _ (List.mem_map.mpr ⟨_, mS, rfl⟩), tb _ (List.mem_map.mpr ⟨_, mO, rfl⟩), ne⟩ F⟩
  · obtain ⟨d, hd, rfl⟩ := mm p hp
    exact c.empty d hd
  · obtain ⟨d, hd, rfl⟩ := mm p hp
    exact c.out d hd
  · obtain ⟨d, hd, rfl⟩ := mm p hp
    exact PySem.W.codeHd_of_K X (c.hd d hd)
  · rcases List.mem_cons.mp hp with z | z
    · rw [z]
      exact TabN.nil (ht _ (List.mem_map.mpr ⟨_, mS, rfl⟩))
    · rw [List.mem_singleton.mp z]
      exact TabN.nil (ht _ (List.mem_map.mpr ⟨_, mO, rfl⟩))
end Th
open PySem PySem.W PySem.Calls PyProof.Rows
theorem PySem.Challenge.cw_thinbook_k64_names_chosen_holds : PySem.Challenge.rw_thinbook_k64_names_chosen.Holds := by
  w_on; o_law
  refine HandSHeadRun.head_any (r := OpenLaw.row PySem.Challenge.rw_thinbook_k64_names_chosen) (q := view (OpenLaw.row PySem.Challenge.rw_thinbook_k64_names_chosen).prog [46]) (H := Th.hk) (ob := Th.ob) (M := 20000) (loose := Th.names) (d := HandSHeadRun.topDef (OpenLaw.row PySem.Challenge.rw_thinbook_k64_names_chosen).prog 46) (kwd := []) Th.ob_eq
    (by kernel_rfl) (fun s => by kernel_rfl) Th.run (by kernel_rfl) (by kernel_rfl) (by kernel_rfl) (by rfl) (by first | assumption | decide +kernel) (by decide +kernel) ⟨rfl, rfl, rfl, rfl, rfl, by decide +kernel⟩ ?hw ?hc
  case hw => w_witness2
  case hc =>
    refine LamX.walk_ofTsE (l := PySem.Challenge.rw_thinbook_k64_names_chosen) (n := 63) (k := 9) (x := "_law_script") (CX := fun _ => C8.CX0) rfl (by decide) (by kernel_rfl) ⟨rfl, by decide, by decide⟩ ?F (fun _ _ _ _ _ z => z)
    intro w mg fa h Y G hmg0
    obtain ⟨K, KX, c⟩ := Y
    have hmg : mg ("law" : PySem.Str) = some (.ref fa) := by
      have e : (HandSHeadRun.topDef (OpenLaw.row PySem.Challenge.rw_thinbook_k64_names_chosen).prog 46).name = ("law" : PySem.Str) := by kernel_rfl
      rw [← e]
      exact hmg0
    exact ⟨K, KX, Th.lawAt KX G hmg c⟩
