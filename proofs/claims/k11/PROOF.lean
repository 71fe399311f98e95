import PyProof.Rows.All
import Wide.All
import OpenK.AllK
import Wide.FinOn
import HandS.ForMost
import HandS.GenList
import HandS.Lambda
import PyProof.CodeObjX
import HandS.ForExc
import HandS.CallSlots
import KE.GoesRaise
import HandS.FStr
import HandS.ExcSuper
import KE.KExcSuper
import HandS.IsInst
import HandS.ExcIs
import HandS.ExcField
import HandS.RaiseMore
import KE.KExcIs
import HandS.Words
import HandS.WordsExc
import HandS.EndTab
import PySem.Challenge.RW_messageways_k11_what_messages_show
set_option Elab.async false
set_option linter.all false
set_option maxRecDepth 100000
set_option maxHeartbeats 2000000
/-! G1: any and all of a generator expression whose element is any PE (calls, generator expressions within). -/
namespace GA
open PySem PySem.Spec PyProof.Rows L2 GenW
/-! ### code objects and their tables -/
/-- at c stands a code object whose table stands at P -/
def CodeT (c P : Addr) : HO := .ext fun h => PySem.W.CodeHd h c P
theorem codeT_ne {c P : Addr} (ps : Array Value) : CodeT c P ≠ .tbl ps := fun z => by
  unfold CodeT at z
  cases z
theorem codeT_own {c P x : Addr} : CodeT c P ≠ .own x := fun z => by
  unfold CodeT at z
  cases z
theorem codeT_tup {c P : Addr} {xs : List V} : CodeT c P ≠ .tup xs := fun z => by
  unfold CodeT at z
  cases z
theorem codeT_frz {c P : Addr} {o : Obj} {u : HO} : CodeT c P ≠ .frz o u := fun z => by
  unfold CodeT at z
  cases z
theorem codeT_ok {Q : Program} {w : World} {H : Hp} {h : Heap} {c P : Addr} (x : PySem.W.CodeHd h c P) : ObjOk Q w H h c (CodeT c P) := by
  refine ⟨x, ?_, fun h1 h2 z k => ?_⟩
  · obtain ⟨o, _, _, _, _, _, _, _, _, e, _⟩ := x
    exact ⟨o, e⟩
  · obtain ⟨o, vs, file, tf, flags, tg, inF, text, tt, e, r⟩ := z
    exact ⟨o, vs, file, tf, flags, tg, inF, text, tt, k _ e, r⟩
theorem codeT_at {Q : Program} {w : World} {H : Hp} {h : Heap} {c P : Addr} (hok : HOk Q w H h) (e : H c = some (CodeT c P)) : PySem.W.CodeHd h c P := by
  have x : ObjOk Q w H h c (.ext fun h => PySem.W.CodeHd h c P) := hok c _ e
  exact x.1
/-- the table at P; its code objects' tables, n levels down -/
def TG : Nat → Hp → Addr → Prop
  | 0, H, P => ∃ ps : Array Value, H P = some (.tbl ps) ∧ TriplesOk ps.toList
  | n + 1, H, P => ∃ ps : Array Value, H P = some (.tbl ps) ∧ TriplesOk ps.toList ∧ ∀ (pos : Pos) (cv : Value), codeAmong pos ps.toList = some cv → ∃ c1 P1, cv = .ref c1 ∧ H c1 = some (CodeT c1 P1) ∧ TG n H P1
theorem TG.tab {H : Hp} {P : Addr} : ∀ {n : Nat}, TG n H P → ∃ ps : Array Value, H P = some (.tbl ps) ∧ TriplesOk ps.toList
  | 0, h => h
  | _ + 1, ⟨ps, h1, h2, _⟩ => ⟨ps, h1, h2⟩
theorem TG.nil {H : Hp} {P : Addr} (h : H P = some (.tbl #[])) : ∀ n : Nat, TG n H P
  | 0 => ⟨#[], h, True.intro⟩
  | _ + 1 => ⟨#[], h, True.intro, fun pos cv hc => by
    have z : codeAmong pos [] = some cv := hc
    simp [codeAmong] at z⟩
/-- all but the tables stays, the tables stay tables, nothing is gone -/
structure Tk (H H' : Hp) : Prop where
  ext : ∀ b o, H b = some o → (∀ ps, o ≠ .tbl ps) → H' b = some o
  tg : ∀ n P, TG n H P → TG n H' P
  free : ∀ b, H' b = none → H b = none
theorem Tk.refl (H : Hp) : Tk H H := ⟨fun _ _ h _ => h, fun _ _ h => h, fun _ h => h⟩
theorem Tk.trans {H H1 H2 : Hp} (a : Tk H H1) (b : Tk H1 H2) : Tk H H2 := ⟨fun c o h n => b.ext c o (a.ext c o h n) n, fun n P h => b.tg n P (a.tg n P h), fun c h => a.free c (b.free c h)⟩
theorem TG.same {H H' : Hp} (e : ∀ b o, H b = some o → H' b = some o) : ∀ {n : Nat} {P : Addr}, TG n H P → TG n H' P
  | 0, _, ⟨ps, h1, h2⟩ => ⟨ps, e _ _ h1, h2⟩
  | n + 1, _, ⟨ps, h1, h2, h3⟩ => ⟨ps, e _ _ h1, h2, fun pos cv hc => by
    obtain ⟨c1, P1, e1, e2, e3⟩ := h3 pos cv hc
    exact ⟨c1, P1, e1, e _ _ e2, TG.same e e3⟩⟩
theorem Tk.of {H H' : Hp} (e : ∀ b o, H b = some o → H' b = some o) : Tk H H' := ⟨fun b o h _ => e b o h, fun _ _ h => TG.same e h, fun b h => by
  cases q : H b with
  | none => rfl
  | some o =>
    rw [e b o q] at h
    cases h⟩
theorem Tk.new {H : Hp} {p : Addr} {o : HO} (h : H p = none) : Tk H (upd H p o) := Tk.of fun b u q => by
  rw [upd_ne (ne_of_none q h)]
  exact q
/-- a code object has been made for the table at P -/
def made3 (H : Hp) (P c' P' : Addr) (ps more : Array Value) : Hp := upd (upd (upd H P (.tbl (ps ++ more))) c' (CodeT c' P')) P' (.tbl #[])
section
variable {H : Hp} {P c' P' : Addr} {ps more : Array Value}
theorem made3_P (hP : H P = some (.tbl ps)) (hc : H c' = none) (hp : H P' = none) : made3 H P c' P' ps more P = some (.tbl (ps ++ more)) := by
  unfold made3
  rw [upd_ne (ne_of_none hP hp), upd_ne (ne_of_none hP hc), upd_same]
theorem made3_c (hne : c' ≠ P') : made3 H P c' P' ps more c' = some (CodeT c' P') := by
  unfold made3
  rw [upd_ne hne, upd_same]
theorem made3_p : made3 H P c' P' ps more P' = some (.tbl #[]) := upd_same
theorem made3_ne {b : Addr} (h1 : b ≠ P) (h2 : b ≠ c') (h3 : b ≠ P') : made3 H P c' P' ps more b = H b := by
  unfold made3
  rw [upd_ne h3, upd_ne h2, upd_ne h1]
theorem made3_old {b : Addr} {o : HO} (hP : H P = some (.tbl ps)) (hc : H c' = none) (hp : H P' = none) (e : H b = some o) (n : ∀ qs, o ≠ .tbl qs) : made3 H P c' P' ps more b = some o := by
  rw [made3_ne (fun z => n ps (Option.some.inj (e.symm.trans (by rw [z]; exact hP)))) (ne_of_none e hc) (ne_of_none e hp)]
  exact e
theorem Tk.made {pos : Pos} (hP : H P = some (.tbl ps)) (ht : TriplesOk ps.toList) (hc : H c' = none) (hp : H P' = none) (hne : c' ≠ P') :
    Tk H (made3 H P c' P' ps #[rawInt pos.line, rawInt pos.col, .ref c']) := by
  have eL : (ps ++ #[rawInt pos.line, rawInt pos.col, Value.ref c']).toList = ps.toList ++ [rawInt pos.line, rawInt pos.col, .ref c'] := by simp
  have nt : ∀ {b : Addr} {o : HO}, H b = some o → b ≠ P → made3 H P c' P' ps #[rawInt pos.line, rawInt pos.col, .ref c'] b = some o := fun {b o} e h => by
    rw [made3_ne h (ne_of_none e hc) (ne_of_none e hp)]
    exact e
  have tP : TriplesOk (ps ++ #[rawInt pos.line, rawInt pos.col, Value.ref c']).toList := by
    rw [eL]
    exact PySem.TriplesOk_snoc _ _ _ _ ht
  have key : ∀ (n : Nat) (Q : Addr), TG n H Q → TG n (made3 H P c' P' ps #[rawInt pos.line, rawInt pos.col, .ref c']) Q := by
    intro n
    induction n with
    | zero =>
      rintro Q ⟨qs, e, t⟩
      by_cases hQ : Q = P
      · subst hQ
        exact ⟨_, made3_P hP hc hp, tP⟩
      · exact ⟨qs, nt e hQ, t⟩
    | succ n ih =>
      rintro Q ⟨qs, e, t, h3⟩
      have old : ∀ {c1 P1 : Addr}, H c1 = some (CodeT c1 P1) → TG n H P1 → made3 H P c' P' ps #[rawInt pos.line, rawInt pos.col, .ref c'] c1 = some (CodeT c1 P1) ∧ TG n (made3 H P c' P' ps #[rawInt pos.line, rawInt pos.col, .ref c']) P1 :=
        fun {c1 P1} e1 e2 => ⟨made3_old hP hc hp e1 codeT_ne, ih _ e2⟩
      by_cases hQ : Q = P
      · subst hQ
        rw [hP] at e
        cases e
        refine ⟨_, made3_P hP hc hp, tP, fun p' cv hcv => ?_⟩
        rw [eL] at hcv
        rcases LamX.among_app _ ht hcv with z | z
        · obtain ⟨c1, P1, e1, e2, e3⟩ := h3 p' cv z
          obtain ⟨e4, e5⟩ := old e2 e3
          exact ⟨c1, P1, e1, e4, e5⟩
        · exact ⟨c', P', z, made3_c hne, TG.nil made3_p n⟩
      · refine ⟨qs, nt e hQ, t, fun p' cv hcv => ?_⟩
        obtain ⟨c1, P1, e1, e2, e3⟩ := h3 p' cv hcv
        obtain ⟨e4, e5⟩ := old e2 e3
        exact ⟨c1, P1, e1, e4, e5⟩
  refine ⟨fun b o e n => made3_old hP hc hp e n, key, fun b h => ?_⟩
  cases q : H b with
  | none => rfl
  | some o =>
    by_cases hb : b = P
    · rw [hb, made3_P hP hc hp] at h
      cases h
    · rw [nt q hb] at h
      cases h
end
section
variable {X : Cx} {pins : List (Addr × Obj)} {σ : L2.St} {H : Hp} {s : Shared}
theorem inv_code3 {P c' P' : Addr} {ps more : Array Value} {h' : Heap} {t' : Nat} (I : Inv X pins σ H s) (hP : H P = some (.tbl ps)) (k : ∀ b o, b ≠ P → s.heap.get? b = some o → h'.get? b = some o)
    (hm : h'.get? P = some { cls := .none, data := .fields (ps ++ more) }) (hc : s.heap.objs.size ≤ c') (hp : s.heap.objs.size ≤ P') (hne : c' ≠ P') (hcd : PySem.W.CodeHd h' c' P') (ht : h'.get? P' = some { cls := .none, data := .fields #[] }) :
    Inv X pins σ (made3 H P c' P' ps more) { s with heap := h', toks := t' } := by
  have nC : H c' = none := I.hok.fresh hc
  have nP' : H P' = none := I.hok.fresh hp
  have nP : ∀ b u, H b = some u → (∀ q, u ≠ .tbl q) → b ≠ P := fun b u e q z => by
    rw [z, hP] at e
    exact q ps (Option.some.inj e).symm
  have nN : ∀ b, H b = none → b ≠ P := fun b e z => by
    rw [z, hP] at e
    cases e
  have lt : ∀ b o, s.heap.get? b = some o → b < s.heap.objs.size := fun b o e => Heap.lt_size e
  have ltc : ∀ b o, s.heap.get? b = some o → b ≠ c' := fun b o e => Nat.ne_of_lt (Nat.lt_of_lt_of_le (lt b o e) hc)
  have ltp : ∀ b o, s.heap.get? b = some o → b ≠ P' := fun b o e => Nat.ne_of_lt (Nat.lt_of_lt_of_le (lt b o e) hp)
  have old : ∀ {b : Addr} {o : HO}, H b = some o → (∀ qs, o ≠ .tbl qs) → made3 H P c' P' ps more b = some o := fun {b o} e n => made3_old hP nC nP' e n
  refine I.step (g' := s.gens) (d' := s.drawn) (ch := []) (fun b hb => absurd hb (by simp)) (fun b o _ _ _ e n => k b o (nN b n) e) (fun b o _ _ _ e n => ⟨o.slots, k b o (nN b n) e⟩)
    (fun b o _ e n => by rw [made3_ne (nN b n) (ltc b o e) (ltp b o e)]; exact n) (fun b o _ e => ?_) (fun b xs e => old e (fun q z => by cases z)) (fun b o u e => old e (fun q z => by cases z)) (fun b qs e => ?_) (fun m hn => ?_) (fun b u e => ?_) I.bare
  · by_cases hb : b = P
    · rw [hb]
      exact ⟨_, hm⟩
    · exact ⟨o, k b o hb e⟩
  · by_cases hb : b = P
    · rw [hb, hP] at e
      cases e
      rw [hb, made3_P hP nC nP']
      exact ⟨more, rfl⟩
    · rw [made3_ne hb (ne_of_none e nC) (ne_of_none e nP'), e]
      exact ⟨#[], by simp⟩
  · obtain ⟨ob, es, ep, ho, r⟩ := hn
    exact ⟨ob, es, ep, k _ ob (nN _ I.free) ho, r⟩
  · by_cases hb3 : b = P'
    · rw [hb3, made3_p] at e
      cases e
      rw [hb3]
      exact ht
    by_cases hb2 : b = c'
    · rw [hb2, made3_c hne] at e
      cases e
      rw [hb2]
      exact codeT_ok hcd
    by_cases hb : b = P
    · rw [hb, made3_P hP nC nP'] at e
      cases e
      rw [hb]
      exact hm
    · rw [made3_ne hb hb2 hb3] at e
      refine (I.hok b u e).stay (fun d v hd q => k d v ?_ q) (fun d q => old q (fun q z => by cases z)) fun d xs q => old q (fun q z => by cases z)
      rcases hd with z | z
      · rw [z]
        exact hb
      · exact nP d _ z (fun q z => by cases z)

/-! ### the context of the generator's frame -/
abbrev gcx (X : Cx) (s : Shared) (H : Hp) (e : Env) (A : Around) (fp : List Addr) (pn : List (Addr × Obj)) : Cx :=
  { X with A := A, s_0 := s, H_0 := H, env := e, outer := X.stack, stack := e :: X.stack, ex := fp, fn := fun _ => false, calm := true, pn := pn, xe := fun _ _ => False }
abbrev gEnv (X : Cx) (scope : Scope) (L : Addr) (code : Value) : Env := genEnv scope (cloFrom X.env.cells scope.names []) L code builtinsNs X.env
theorem gen_start {scope : Scope} {own : List (Str × Nat)} {fp : List Addr} {A : Around} {code : Value} {h' : Heap} {g' : Array GenState} {t' : Nat} {it : Value} {pn : List (Addr × Obj)} (I : Inv X pins σ H s) (ok : BlkOk X.N X.env.scope scope own) (hN : X.N.Nodup) (hnc : ∀ y ∈ scope.names, y.2 ≠ .cell)
    (hfp : ∀ b ∈ fp, FpOk X pins H b ∧ b < s.heap.objs.size) (hA : A.frames = some (gEnv X scope s.heap.objs.size code :: X.stack)) (hh : A.handled = none) (hg : AllBare g')
    (hn : h'.Ns s.heap.objs.size fun y => if y = ".0" then some it else none) (kp : ∀ b o, s.heap.get? b = some o → h'.get? b = some o) (hpn : ∀ p ∈ pn, h'.get? p.1 = some p.2 ∧ s.heap.objs.size < p.1 ∧ ∀ v, p.2.data ≠ .cell v) :
    Inv (gcx X s H (gEnv X scope s.heap.objs.size code) A fp pn) [] (wipe σ (own.map (·.2))) H { s with heap := h', gens := g', toks := t' } := by
  have hfree : ∀ y ∈ scope.names, y.2 = .free → ∃ c, X.env.cells.lookup y.1 = some c := fun y hy e => by
    rcases ok.free y hy e with k | k
    · exact I.ok.has _ (.inl k)
    · exact I.ok.has _ (.inr k)
  generalize he : gEnv X scope s.heap.objs.size code = ce at hA ⊢
  have hL : ce.locals = s.heap.objs.size := by rw [← he]; rfl
  have hcl : ce.cells = cloFrom X.env.cells scope.names [] := by rw [← he]; rfl
  have hsc : ce.scope = scope := by rw [← he]; rfl
  have cm : ∀ {y c}, ce.cells.lookup y = some c → X.env.cells.lookup y = some c := fun {y c} e => by
    rw [hcl] at e
    rcases cloFrom_mem (PySem.mem_of_lookup e) with hm | ⟨h1, rfl⟩
    · cases hm
    · obtain ⟨c, hc⟩ := hfree _ h1 rfl
      rw [hc]
      rfl
  have clt : ∀ {y c}, ce.cells.lookup y = some c → c < s.heap.objs.size := fun {y c} e => by
    obtain ⟨v, z⟩ := I.cell y c (cm e)
    exact z.lt
  have look : ∀ {y}, scope.names.lookup y = some .free → ∃ c, ce.cells.lookup y = some c ∧ X.env.cells.lookup y = some c := fun {y} hl => by
    have hy : (y, NameKind.free) ∈ scope.names := PySem.mem_of_lookup hl
    obtain ⟨c', e'⟩ := mem_lookup (cloFrom_has (cells := X.env.cells) (acc := []) hy)
    rw [← hcl] at e'
    exact ⟨c', e', cm e'⟩
  have okG : (gcx X s H ce A fp pn).Ok := by
    refine ⟨I.ok.mod, by show ce.scope.kind = _; rw [hsc]; exact ok.kind, by show ce.globals = _; rw [← he]; exact I.ok.glob, by show ce.builtins = _; rw [← he]; rfl, by show s.heap.objs.size ≤ ce.locals; rw [hL]; exact Nat.le_refl _,
      fun y z c e1 e2 => I.ok.inj y z c (cm e1) (cm e2), fun y hy => ?_, fun y c z e => ?_, fun _ => hh, hA, .inr ⟨rfl, ?_⟩, fun b hb => ⟨?_, fun y c e z => ?_⟩, I.bs, Nat.le_trans I.ok.bsz I.sz, fun b o e hb => ?_, fun b hb z => ?_, I.stack, I.stkFree⟩
    · have hy : ce.scope.names.lookup y = some .cell ∨ ce.scope.names.lookup y = some .free := hy
      rw [hsc] at hy
      rcases hy with hy | hy
      · exact absurd rfl (hnc _ (PySem.mem_of_lookup hy))
      · obtain ⟨c, h1, _⟩ := look hy
        exact ⟨c, h1⟩
    · have z : false = true := z
      cases z
    · show ce.frame = some ce.locals
      rw [← he]
      rfl
    · show b ≠ ce.locals
      rw [hL]; exact Nat.ne_of_lt (hfp b hb).2
    · have e : ce.cells.lookup y = some c := e
      exact (hfp b hb).1.2.2.2.2.1 y c (cm e) z
    · rcases (hfp b hb).1.2.2.2.1 with z | z
      · exact I.ok.noex b o e z
      · exact absurd (Nat.lt_of_lt_of_le (Heap.lt_size e) (Nat.le_trans I.ok.bsz z)) (Nat.lt_irrefl _)
    · rcases List.mem_cons.mp (I.stkSub b z) with z | z
      · exact (hfp b hb).1.2.1 z
      · exact (hfp b hb).1.2.2.1 z
  refine ⟨okG, rfl, hg, Un.kept kp, ⟨_, by show Heap.Ns _ ce.locals _; rw [hL]; exact hn, fun i y av e1 e2 e3 => ?_⟩, fun y c e => ?_, ?_, fun y c e => ?_, fun p hp => ?_, I.hok.kept kp, by rw [wipe_length]; exact I.len⟩
  · obtain ⟨e2, hne⟩ := wipe_some e2
    have e3 : Vis ce.scope y := e3
    rw [hsc] at e3
    have no : ∀ {k : NameKind}, scope.names.lookup y = some k → ¬ (k = .local ∨ k = .cell) := fun {k} e hh => by
      rcases ok.own _ (PySem.mem_of_lookup e) hh with e' | e'
      · obtain ⟨p, hp, hpy⟩ := List.mem_map.mp e'
        have e3 := ok.ix p hp
        have : p.1 = y := hpy
        rw [this] at e3
        exact hne (List.mem_map.mpr ⟨p, hp, nodup_ix hN e3 e1⟩)
      · exact e' (List.mem_of_getElem? e1)
    have hfr : scope.names.lookup y = some .free := by
      rcases e3 with e3 | e3 | e3
      · exact absurd (.inl rfl) (no e3)
      · exact absurd (.inr rfl) (no e3)
      · exact e3
    obtain ⟨m, hnm, hl⟩ := I.loc
    have hvis : Vis X.env.scope y := (ok.free _ (PySem.mem_of_lookup hfr) rfl).elim (fun k => .inr (.inl k)) (fun k => .inr (.inr k))
    obtain ⟨w, r, q⟩ := hl i y av e1 e2 hvis
    obtain ⟨c, h1, h2⟩ := look hfr
    refine ⟨w, r, .inr ⟨.inr (by show ce.scope.names.lookup y = _; rw [hsc]; exact hfr), c, h1, ?_⟩⟩
    rcases q with ⟨k, _⟩ | ⟨_, c', e', z⟩
    · have k : X.env.scope.names.lookup y = some .local := k
      rcases ok.free _ (PySem.mem_of_lookup hfr) rfl with k' | k' <;> rw [show X.env.scope.names.lookup y = _ from k'] at k <;> cases k
    · rw [h2] at e'; cases e'
      exact z.keeps kp
  · have e : ce.cells.lookup y = some c := e
    obtain ⟨w, z⟩ := I.cell y c (cm e)
    exact ⟨w, z.keeps kp⟩
  · show H ce.locals = none
    rw [hL]; exact I.hok.fresh (Nat.le_refl _)
  · have e : ce.cells.lookup y = some c := e
    exact I.freeC y c (cm e)
  · have hp : p ∈ pn := by simpa using hp
    obtain ⟨h1, h2, h3⟩ := hpn p hp
    refine ⟨h1, I.hok.fresh (Nat.le_of_lt h2), by show p.1 ≠ ce.locals; rw [hL]; exact Nat.ne_of_gt h2, fun z => ?_, h3⟩
    have z : p.1 ∈ frs X.stack := z
    rcases List.mem_cons.mp (I.stkSub p.1 z) with z | z
    · have := I.lt
      rw [← z] at this
      exact absurd (Nat.lt_trans this h2) (Nat.lt_irrefl _)
    · exact absurd z (I.nofs (Nat.le_of_lt h2))
end
end GA

set_option Elab.async false
set_option linter.all false
set_option maxRecDepth 100000
set_option maxHeartbeats 2000000
/-! G2: the generator's turns; any, all. -/
namespace GA
open PySem PySem.Spec PyProof.Rows L2 GenW
theorem over_gen {A : Around} {elt : Expr} {gs : List Comprehension} {sc : Scope} {pos : Pos} {it acc : Value} {env : Env} : A.over (.compLoop (.GeneratorExp elt gs sc pos) 0 it acc env) [] = A.deeper env := by
  first
    | rfl
    | (obtain ⟨hd, d, fr, gs, u⟩ := A; simp [Around.over, Around.deeper, marksOver, frameCount, unitsOf, envsOf, guardsOf, pushEnvs, pushGuards, Code.envs, Code.env?, Code.isFrame, Code.guards, Code.isGuard, Code.weight, Code.frames, Code.isCreation, Code.isCaller, Code.cUnits])
/-- the generator stands before turn i -/
def GI (X : Cx) (fp : List Addr) (tn : Nat → Heap → Prop) (σ0 : L2.St) (i : Nat) (H : Hp) (s : Shared) : Prop := Inv X [] σ0 H s ∧ tn i s.heap ∧ ∀ b ∈ fp, H b = none
section
variable {X : Cx} {fp : List Addr} {tn : Nat → Heap → Prop} {σ0 : L2.St} {i : Nat} {H : Hp} {s s' : Shared}
theorem inv_kept (I : Inv X [] σ0 H s) (ho : s'.os = s.os) (k : ∀ b o, s.heap.get? b = some o → s'.heap.get? b = some o) (hg : AllBare s'.gens) : Inv X [] σ0 H s' :=
  I.call' (ch := []) ho (Un.kept k) (I.hok.kept k) hg fun _ z => absurd z (by simp)
theorem GI.kept {P : Program} {w : World} {K : PySem.W.Frag} {tg : Expr} {J : It} {it : Addr} (T : Turn P w K tg J fp it tn) (h : GI X fp tn σ0 i H s) (ho : s'.os = s.os) (k : ∀ b o, s.heap.get? b = some o → s'.heap.get? b = some o) (hg : AllBare s'.gens) : GI X fp tn σ0 i H s' :=
  ⟨inv_kept h.1 ho k hg, T.keep i _ _ h.2.1 fun b _ o e => k b o e, h.2.2⟩
end
/-- the turns of a generator expression, by turn and measure; it stops being drawn at stopv -/
def GW (J : It) (g : L2.TG) (te : TE) (vs : List Nat) (σ : L2.St) (stopv : Bool) (Qs Qe : Hp → Prop) (W : Nat → Nat → Hp → Prop) : Prop :=
  ∀ i m H, W i m H → (J.stop i H ∧ Qe H) ∨ (J.go i H ∧ ∃ Nx : Hp → Prop, (∀ H', Nx H' → ∃ m', m' < m ∧ W (i + 1) m' H') ∧ ∀ x H', J.yld i H x H' → g x (wipe σ vs) H' fun σ2 H2 => wipe σ2 vs = wipe σ vs ∧ te σ2 H2 fun y H3 => ∃ b, y = .bl b ∧ (b = stopv → Qs H3) ∧ (b ≠ stopv → Nx H3))
def GEr (X : Cx) (σ0 : L2.St) (Qe : Hp → Prop) : GenEnd := fun n s₀ r s => ((r = .ok (.ret .none) ∨ r = .ok .next) ∧ ∃ H, Inv X [] σ0 H s ∧ Qe H) ∨ ∃ e, r = .error e ∧ False
def GYr (X : Cx) (fp : List Addr) (tn : Nat → Heap → Prop) (σ0 : L2.St) (stopv : Bool) (Qs : Hp → Prop) : Protocol := fun n s₀ v s kap =>
  ∃ b i H, v = .bool b ∧ GI X fp tn σ0 i H s ∧ (b = stopv → Qs H) ∧ (b ≠ stopv → ∀ s', GI X fp tn σ0 i H s' → kap (.send .none) s')
section
variable {X : Cx} {fp : List Addr} {it : Addr} {tn : Nat → Heap → Prop} {J : It} {σ : L2.St} {vs : List Nat} {g : L2.TG} {te : TE} {tg elt iter : Expr} {scope : Scope} {gpos : Pos} {A0 : Around} {stopv : Bool} {Qs Qe : Hp → Prop} {W : Nat → Nat → Hp → Prop}
theorem seg_loop (T : Turn X.prog X.w X.K tg J fp it tn) (hcal : X.calm = true) (hA : A0.over (.compLoop (.GeneratorExp elt [⟨tg, iter, [], 0⟩] scope gpos) 0 (.ref it) .none X.env) [] = X.A) (hex : ∀ b ∈ fp, b ∈ X.ex) (hpn : ∀ p ∈ X.pn, ∀ b ∈ fp, p.1 ≠ b)
    (hco : X.env.scope.isCoroutine = false) (pg : PG X tg g) (pe : PE X elt te) (hxe : ∀ e s, ¬ X.xe e s) (hW : GW J g te vs σ stopv Qs Qe W) :
    ∀ (m n i : Nat) (s₀ s : Shared) (H : Hp), m < n → W i m H → GI X fp tn (wipe σ vs) i H s →
      Seg (model X.prog X.w) A0 (GEr X (wipe σ vs) Qe) (GYr X fp tn (wipe σ vs) stopv Qs) n s₀ (.compLoop (.GeneratorExp elt [⟨tg, iter, [], 0⟩] scope gpos) 0 (.ref it) .none X.env)
        ((model X.prog X.w).den (.compLoop (.GeneratorExp elt [⟨tg, iter, [], 0⟩] scope gpos) 0 (.ref it) .none X.env)) [] s := by
  have stat : ∀ {σ' : L2.St} {H' : Hp} {s' : Shared}, Inv X [] σ' H' s' → (∀ b ∈ fp, H' b = none) → ∀ b ∈ fp, FpOk X [] H' b := fun {σ' H' s'} I' hn b hb =>
    ⟨hn b hb, (I'.ok.exf b (hex b hb)).1, I'.ok.exfs b (hex b hb), .inl (hex b hb), fun x c e => (I'.ok.exf b (hex b hb)).2 x c e, fun p hp => hpn p (by simpa using hp) b hb⟩
  intro m
  induction m using Nat.strongRecOn with
  | ind m ih =>
    intro n i s₀ s H hmn w hI
    obtain ⟨n, rfl⟩ : ∃ k, n = k + 1 := ⟨n - 1, by omega⟩
    obtain ⟨I, st, fr⟩ := hI
    show Seg _ A0 _ _ _ s₀ _ ((compTurn (.GeneratorExp elt [⟨tg, iter, [], 0⟩] scope gpos) 0 (.ref it) .none X.env).onRaise (leaving X.env)) [] s
    rw [compTurn_gen, Sem.onRaise_eq_wrap]
    refine seg_bind_wrap (wpAny_standAt ?_)
    rcases hW i m H w with ⟨stop, qe⟩ | ⟨go, Nx, hNx, step⟩
    · refine seg_bind_wrap ?_
      rw [hA]
      refine thnF (T.done X rfl rfl rfl hcal i [] s _ H (fun _ _ => False) I (stat I fr) st stop) fun r s6 h6 => ?_
      obtain ⟨hr, I6⟩ := h6
      subst hr
      exact seg_end (.ok .next) (.inl ⟨.inr rfl, H, I6, qe⟩)
    · refine seg_bind_wrap ?_
      rw [hA]
      refine thnF (T.item X rfl rfl rfl hcal i [] s _ H (fun _ _ => False) I (stat I fr) st go) fun r s6 h6 => ?_
      obtain ⟨u, hr, h6⟩ := h6
      subst hr
      refine seg_bind_wrap ?_
      rw [hA]
      refine thnF h6 fun _ s7 h7 => ?_
      obtain ⟨x, H7, I7, r7, y7, st7, n7⟩ := h7
      have I7' := I7.pinned (stat I7 n7) (T.obj _ _ st7)
      refine seg_bind_wrap ?_
      rw [hA]
      refine wpAny_mono (pg.run _ s7 _ H7 x u _ I7' r7 (step x H7 y7)) (fun _ s8 h8 => ?_) fun e s' z => absurd z (hxe e s')
      obtain ⟨σ8, H8, I8, hw8, q8⟩ := h8
      refine seg_bind_wrap (wpAny_tests_nil ?_)
      simp only [if_true]
      have hy : ∀ v, yieldOut X.env v = yieldValue v := fun v => by simp only [yieldOut, hco, Bool.false_eq_true, if_false]
      simp only [hy]
      rw [Sem.bind_eq_wrap', Sem.bind_eq_wrap', Sem.wrap_wrap, Sem.wrap_wrap]
      refine seg_wrap ?_
      rw [hA]
      refine wpAny_mono (pe.run _ s8 σ8 H8 _ I8 q8) (fun v s9 h9 => ?_) fun e s' z => absurd z (hxe e s')
      obtain ⟨yv, H9, I9, r9, b, eb, q1, q2⟩ := h9
      subst eb
      obtain rfl : v = Value.bool b := r9
      have pin' : ∀ b ∈ fp, ∀ o, s7.heap.get? b = some o → s9.heap.get? b = some o ∧ H9 b = none := fun b hb o e =>
        let z := I9.pin (b, o) (List.mem_append_right _ (List.mem_append_right _ (mem_pinsAt hb e)))
        ⟨z.1, z.2.1⟩
      have hl : (wipe σ vs).length = σ8.length := by rw [← hw8, wipe_length]
      have G9 : GI X fp tn (wipe σ vs) (i + 1) H9 s9 := by
        refine ⟨(I9.unpinned (pins := [])).weak hl (fun j v e => ?_), T.keep _ _ _ st7 fun b hb o e => (pin' b hb o e).1, fun b hb => ?_⟩
        · rw [← hw8] at e
          exact (wipe_some e).1
        · obtain ⟨o, e, _⟩ := T.obj _ _ st7 b hb
          exact (pin' b hb o e).2
      refine seg_at (seg_yield rfl rfl rfl ⟨b, i + 1, H9, rfl, G9, q1, fun hb s'' hG => ?_⟩)
      obtain ⟨m', hm, w'⟩ := hNx H9 (q2 hb)
      exact seg_again rfl (ih m' hm n (i + 1) s'' s'' H9 (by omega) w' hG)
theorem seg_start (T : Turn X.prog X.w X.K tg J fp it tn) (hcal : X.calm = true) (hA : A0.over (.compLoop (.GeneratorExp elt [⟨tg, iter, [], 0⟩] scope gpos) 0 (.ref it) .none X.env) [] = X.A) (hex : ∀ b ∈ fp, b ∈ X.ex) (hpn : ∀ p ∈ X.pn, ∀ b ∈ fp, p.1 ≠ b)
    (hco : X.env.scope.isCoroutine = false) (pg : PG X tg g) (pe : PE X elt te) (hxe : ∀ e s, ¬ X.xe e s) (hW : GW J g te vs σ stopv Qs Qe W) {m n : Nat} {s₀ s : Shared} {H : Hp} (hm : m < n) (w : W 0 m H) (hI : GI X fp tn (wipe σ vs) 0 H s) :
    Seg (model X.prog X.w) A0 (GEr X (wipe σ vs) Qe) (GYr X fp tn (wipe σ vs) stopv Qs) n s₀ (.compStart (.GeneratorExp elt [⟨tg, iter, [], 0⟩] scope gpos) 0 (.ref it) .none X.env)
      ((model X.prog X.w).den (.compStart (.GeneratorExp elt [⟨tg, iter, [], 0⟩] scope gpos) 0 (.ref it) .none X.env)) [] s := by
  have loop := seg_loop (W := W) T hcal hA hex hpn hco pg pe hxe hW m n 0 s₀ s H hm w hI
  show Seg _ A0 _ _ _ s₀ _ ((compStart (.GeneratorExp elt [⟨tg, iter, [], 0⟩] scope gpos) 0 (.ref it) .none X.env).onRaise (leaving X.env)) [] s
  unfold compStart
  rw [Sem.onRaise_eq_wrap]
  show Seg _ A0 _ _ _ s₀ _ ((ask >>= _).wrap _ _ _ _) [] s
  refine seg_bind_wrap (wpAny_askSetting ?_)
  split
  · exact seg_again rfl loop
  · first
      | exact seg_bind_wrap (wpAny_rule (seg_bind_wrap (wpAny_standAt (seg_bind_wrap (T.self _ 0 s _ _ hI.2.1 (seg_again rfl loop))))))
      | (refine seg_bind_wrap (wpAny_rule ?_); show Seg _ A0 _ _ _ s₀ _ ((standAt iter.pos >>= _).wrap _ _ _ _) [] s; exact seg_bind_wrap (wpAny_standAt (seg_bind_wrap (T.self _ 0 s _ _ hI.2.1 (seg_again rfl loop)))))
end
/-! ### the consumer -/
section
variable {X : Cx} {fp : List Addr} {it a : Addr} {gn : Nat} {tn : Nat → Heap → Prop} {J : It} {σ0 : L2.St} {tg : Expr} {stopv : Bool} {Qs Qe : Hp → Prop} {A : Around} {R : Result → Shared → Prop}
/-- the generator a waits, n turns are left at most -/
def GWait (X : Cx) (fp : List Addr) (tn : Nat → Heap → Prop) (σ0 : L2.St) (stopv : Bool) (Qs Qe : Hp → Prop) (A : Around) (a : Addr) (gn n : Nat) (s : Shared) : Prop :=
  s.heap.IsGen a gn ∧ s.heap.NoLimit ∧ ∃ gs, s.gens[gn]? = some gs ∧ gs.Goes (model X.prog X.w) A (GEr X σ0 Qe) (GYr X fp tn σ0 stopv Qs) n (.send .none) (s.setGen gn .running)
theorem gen_next (T : Turn X.prog X.w X.K tg J fp it tn) (hh : A.handled = none) (hd : A.depth < recursionLimit) (hgen : ∀ H s', Inv X [] σ0 H s' → s'.heap.IsGen a gn) {n : Nat} {s : Shared} {Q : Option Value → Shared → Prop} {E : Value → Shared → Prop}
    (hw : GWait X fp tn σ0 stopv Qs Qe A.in1 a gn n s) (hend : ∀ H s', Inv X [] σ0 H s' → Qe H → Q none s') (hstop : ∀ H s', Inv X [] σ0 H s' → Qs H → Q (some (.bool stopv)) s') (hgo : ∀ m s', n = m + 1 → GWait X fp tn σ0 stopv Qs Qe A.in1 a gn m s' → Q (some (.bool (!stopv))) s') :
    wpAny (model X.prog X.w) A (pyNext (.ref a)) Q E s := by
  obtain ⟨hg, hl, gs, hgs, hgoes⟩ := hw
  have hgl : gn < s.gens.size := (Array.getElem?_eq_some_iff.mp hgs).1
  refine wpAny_gsz (n := gn + 1) hgl (next_genG (A := A) (F := fun _ _ s₁ => ∃ H, Inv X [] σ0 H s₁ ∧ Qe H) (Er := fun _ _ => False) hh hl hd hg hgs (show gs.Goes (model X.prog X.w) A.in1 (GEr X σ0 Qe) _ n (.send .none) (s.setGen gn .running) from hgoes) (fun v s₁ gs' hbare hv => ?_) (fun s₁ hp h' hk => ?_) fun e s₁ he => he.elim)
  · intro hsz
    have q : (s₁.setGen gn gs').gens.size = s₁.gens.size := setGen_size _ _ _
    have hsz1 : gn < s₁.gens.size := by
      have hsz' : gn + 1 ≤ (s₁.setGen gn gs').gens.size := hsz
      omega
    obtain ⟨b, i, H, rfl, hG, q1, q2⟩ := hv
    have bare' := allBare_setGen (s := s₁) (g := gn) hG.1.bare hbare
    by_cases hb : b = stopv
    · subst hb
      exact hstop H _ (inv_kept hG.1 rfl (fun _ _ e => e) bare') (q1 rfl)
    · have eb : b = !stopv := by
        cases b <;> cases stopv <;> simp_all
      cases n with
      | zero => exact False.elim (q2 hb s₁ hG)
      | succ m =>
        rw [eb]
        refine hgo m _ rfl ⟨hgen H _ (inv_kept (s' := s₁.setGen gn gs') hG.1 rfl (fun _ _ e => e) bare'), hG.1.nolimit, gs', setGen_at hsz1, ?_⟩
        refine q2 hb _ (hG.kept T rfl (fun _ _ e => e) ?_)
        exact allBare_setGen (s := s₁.setGen gn gs') bare' rfl
  · intro _
    obtain ⟨H, I, qe⟩ := hp
    exact hend H _ (inv_kept I rfl hk (allBare_setGen (s := s₁) (g := gn) I.bare rfl)) qe
theorem any_drain (T : Turn X.prog X.w X.K tg J fp it tn) (hh : A.handled = none) (hd : A.depth < recursionLimit) (hgen : ∀ H s', Inv X [] σ0 H s' → s'.heap.IsGen a gn)
    (hend : ∀ H s', Inv X [] σ0 H s' → Qe H → R (.ok (.ret (.bool false))) s') (hstop : ∀ H s', Inv X [] σ0 H s' → Qs H → R (.ok (.ret (.bool true))) s') :
    ∀ (n : Nat) (s : Shared), GWait X fp tn σ0 true Qs Qe A.in1.in1 a gn n s → codeAny (model X.prog X.w) A (.builtin "any.loop" ⟨[.ref a], []⟩) R s := by
  intro n
  induction n with
  | zero =>
    intro s hw
    refine codeAny_builtin F.entry_any_loop ?_
    rw [Around.under_plainId F.plain_any_loop _]
    show wpAny _ A.in1 (pyNext (.ref a) >>= _) _ _ s
    refine wpAny_bind (gen_next (A := A.in1) T hh hd hgen hw (fun H s' I q => ?_) (fun H s' I q => ?_) fun m s' e _ => absurd e (by omega))
    · exact wpAny_bind (wpAny_rule (wpAny_pure (hend H s' I q)))
    · refine wpAny_bind (wpAny_holding (wpAny_truthy_bool ?_))
      refine wpAny_bind (wpAny_letGo ?_)
      simp only [if_true]
      exact wpAny_bind (wpAny_rule (wpAny_pure (hstop H s' I q)))
  | succ n ih =>
    intro s hw
    refine codeAny_builtin F.entry_any_loop ?_
    rw [Around.under_plainId F.plain_any_loop _]
    show wpAny _ A.in1 (pyNext (.ref a) >>= _) _ _ s
    refine wpAny_bind (gen_next (A := A.in1) T hh hd hgen hw (fun H s' I q => ?_) (fun H s' I q => ?_) fun m s' e hw' => ?_)
    · exact wpAny_bind (wpAny_rule (wpAny_pure (hend H s' I q)))
    · refine wpAny_bind (wpAny_holding (wpAny_truthy_bool ?_))
      refine wpAny_bind (wpAny_letGo ?_)
      simp only [if_true]
      exact wpAny_bind (wpAny_rule (wpAny_pure (hstop H s' I q)))
    · obtain rfl : n = m := by omega
      refine wpAny_bind (wpAny_holding (wpAny_truthy_bool ?_))
      refine wpAny_bind (wpAny_letGo ?_)
      simp only [Bool.not_true, Bool.false_eq_true, if_false]
      exact wpAny_pure ⟨plainId_quiet F.plain_any_loop _, ih s' hw'⟩
theorem all_drain (T : Turn X.prog X.w X.K tg J fp it tn) (hh : A.handled = none) (hd : A.depth < recursionLimit) (hgen : ∀ H s', Inv X [] σ0 H s' → s'.heap.IsGen a gn)
    (hend : ∀ H s', Inv X [] σ0 H s' → Qe H → R (.ok (.ret (.bool true))) s') (hstop : ∀ H s', Inv X [] σ0 H s' → Qs H → R (.ok (.ret (.bool false))) s') :
    ∀ (n : Nat) (s : Shared), GWait X fp tn σ0 false Qs Qe A.in1.in1 a gn n s → codeAny (model X.prog X.w) A (.builtin "all.loop" ⟨[.ref a], []⟩) R s := by
  intro n
  induction n with
  | zero =>
    intro s hw
    refine codeAny_builtin F.entry_all_loop ?_
    rw [Around.under_plainId F.plain_all_loop _]
    show wpAny _ A.in1 (pyNext (.ref a) >>= _) _ _ s
    refine wpAny_bind (gen_next (A := A.in1) T hh hd hgen hw (fun H s' I q => ?_) (fun H s' I q => ?_) fun m s' e _ => absurd e (by omega))
    · exact wpAny_bind (wpAny_rule (wpAny_pure (hend H s' I q)))
    · refine wpAny_bind (wpAny_holding (wpAny_truthy_bool ?_))
      refine wpAny_bind (wpAny_letGo ?_)
      simp only [Bool.false_eq_true, if_false]
      exact wpAny_bind (wpAny_rule (wpAny_pure (hstop H s' I q)))
  | succ n ih =>
    intro s hw
    refine codeAny_builtin F.entry_all_loop ?_
    rw [Around.under_plainId F.plain_all_loop _]
    show wpAny _ A.in1 (pyNext (.ref a) >>= _) _ _ s
    refine wpAny_bind (gen_next (A := A.in1) T hh hd hgen hw (fun H s' I q => ?_) (fun H s' I q => ?_) fun m s' e hw' => ?_)
    · exact wpAny_bind (wpAny_rule (wpAny_pure (hend H s' I q)))
    · refine wpAny_bind (wpAny_holding (wpAny_truthy_bool ?_))
      refine wpAny_bind (wpAny_letGo ?_)
      simp only [Bool.false_eq_true, if_false]
      exact wpAny_bind (wpAny_rule (wpAny_pure (hstop H s' I q)))
    · obtain rfl : n = m := by omega
      refine wpAny_bind (wpAny_holding (wpAny_truthy_bool ?_))
      refine wpAny_bind (wpAny_letGo ?_)
      simp only [Bool.not_false, if_true]
      exact wpAny_pure ⟨plainId_quiet F.plain_all_loop _, ih s' hw'⟩
end
/-! ### the expression -/
/-- what builtinsFor asks -/
def BM (base : Heap) (mg : Str → Option Value) : Prop := ∃ (bm : Addr) (o : Obj), mg "__builtins__" = some (.ref bm) ∧ bm ≠ builtinsNs ∧ base.get? bm = some o ∧ o.cls = .type "module" ∧ o.dict = some builtinsNs ∧ o.data = .plain
theorem BM.of {base : Heap} {mg : Str → Option Value} {P : Addr} (h : base.BuiltinsAt mg P) : BM base mg := by
  obtain ⟨bm, o, e1, e2, _, _, e5, e6, e7, e8⟩ := h
  exact ⟨bm, o, e1, e2, e5, e6, e7, e8⟩
structure GScp (scope : Scope) : Prop where
  co : scope.isCoroutine = false
  cell : ∀ y ∈ scope.names, y.2 ≠ .cell
  dot : scope.names.lookup (".0" : Str) = some NameKind.local
  kind : scope.kind = .function
theorem gscp_by {scope : Scope} (h1 : scope.isCoroutine = false := by rfl) (h2 : scope.names.all (fun y => !decide (y.2 = .cell)) = true := by decide +kernel) (h3 : scope.names.lookup (".0" : Str) = some NameKind.local := by decide +kernel) (h4 : scope.kind = .function := by rfl) : GScp scope :=
  ⟨h1, fun y hy e => by
    have z := List.all_eq_true.mp h2 y hy
    simp [e] at z, h3, h4⟩
def tGen (base : Heap) (c P : Addr) (n : Nat) (stopv : Bool) (wi : TI) (g : L2.TG) (te : Addr → Addr → TE) (vs : List Nat) : TE := fun σ H Q => wi σ H fun J H1 => TG (n + 1) H1 P ∧ (PySem.W.CodeHd base c P ∨ H1 c = some (CodeT c P)) ∧
  ∀ c1 P1 H2, Tk H1 H2 → H2 c1 = some (CodeT c1 P1) → TG n H2 P1 → ∃ W : Nat → Nat → Hp → Prop, (∃ m, W 0 m H2) ∧ GW J g (te c1 P1) vs σ stopv (fun H => Q (.bl stopv) H) (fun H => Q (.bl (!stopv)) H) W
section
variable {X : Cx} {c P : Addr} {elt tg iter : Expr} {scope : Scope} {own : List (Str × Nat)} {gpos : Pos} {wi : TI} {g : L2.TG} {te : Addr → Addr → TE} {k n : Nat} {stopv : Bool}
theorem gen_make {pins : List (Addr × Obj)} {s : Shared} {σ : L2.St} {H : Hp} {Q : VK} {Q' : Value → Shared → Prop} (hr : Room (k + 1) X.A) (hN : X.N.Nodup) (hcode : X.env.code = .ref c) (hbm : BM X.base X.mg) (hi : PI X tg iter wi) (ok : BlkOk X.N X.env.scope scope own) (S : GScp scope)
    (hg : ∀ s H L code A fp pn, PG (gcx X s H (gEnv X scope L code) A fp pn) tg g) (he : ∀ s H L c1 P1 A fp pn, Room k A → PE (gcx X s H (gEnv X scope L (.ref c1)) A fp pn) elt (te c1 P1)) (hs : ∀ v, genFold iter X.env v = pure v)
    (I : Inv X pins σ H s) (h : tGen X.base c P n stopv wi g te (own.map (·.2)) σ H Q)
    (hQ : ∀ (Xg : Cx) (fp : List Addr) (it : Addr) (tn : Nat → Heap → Prop) (J : It) (a : Addr) (gn m : Nat) (s5 : Shared), Turn Xg.prog Xg.w Xg.K tg J fp it tn → Xg.prog = X.prog → Xg.w = X.w → (∀ H s', Inv Xg [] (wipe σ (own.map (·.2))) H s' → s'.heap.IsGen a gn) →
      (∀ H s', Inv Xg [] (wipe σ (own.map (·.2))) H s' → Inv X pins σ H s') → s5.heap.IsGen a gn → GWait Xg fp tn (wipe σ (own.map (·.2))) stopv (fun H => Q (.bl stopv) H) (fun H => Q (.bl (!stopv)) H) X.A.in1.in1 a gn m s5 → Q' (.ref a) s5) :
    wpAny (model X.prog X.w) X.A (eval (.GeneratorExp elt [⟨tg, iter, [], 0⟩] scope gpos) X.env) Q' X.xe s := by
  have hfree : ∀ y ∈ scope.names, y.2 = .free → ∃ c, X.env.cells.lookup y.1 = some c := fun y hy e => by
    rcases ok.free y hy e with k | k
    · exact I.ok.has _ (.inl k)
    · exact I.ok.has _ (.inr k)
  refine wpAny_GeneratorExp_make S.co (closure_ok hfree) S.cell S.dot S.kind hr.depth (thn (hi.run pins s σ H _ I h) fun xv s1 h1 => thn h1 fun itv s2 h2 => ?_) hs
  obtain ⟨it, fp, tn, J, H1, e, I1, T, st1, f1, tg1, hcd, q⟩ := h2
  subst e
  refine ⟨I1.nolimit, ?_⟩
  have hcd' : PySem.W.CodeHd s2.heap c P := by
    rcases hcd with z | z
    · exact z.keeps I1.bk
    · exact codeT_at I1.hok z
  obtain ⟨bm, ob, e1, e2, e5, e6, e7, e8⟩ := hbm
  have sz : ∀ b ∈ fp, b < s2.heap.objs.size := fun b hb => by
    obtain ⟨o, e, _⟩ := T.obj _ _ st1 b hb
    exact Heap.lt_size e
  have cont : ∀ (c1 P1 : Addr) (H2 : Hp) (s3 : Shared), Inv X pins σ H2 s3 → s2.heap.objs.size ≤ s3.heap.objs.size → (∀ b ∈ fp, ∀ o, s2.heap.get? b = some o → s3.heap.get? b = some o) → (∀ b ∈ fp, H2 b = none) → Tk H1 H2 → H2 c1 = some (CodeT c1 P1) → TG n H2 P1 →
      wpAny (model X.prog X.w) X.A (builtinsFor X.env.globals X.env.builtins) (fun bi s₄ =>
        ∀ h', h'.Ns s₄.heap.objs.size (fun y => if y = ".0" then some (.ref it) else none) → Heap.SameBut s₄.heap.objs.size (s₄.heap.push { cls := .type "frame", data := .dict #[] }) h' →
          Q' (.ref h'.objs.size) { s₄ with
            gens := s₄.gens.push (.fresh (.compStart (.GeneratorExp elt [⟨tg, iter, [], 0⟩] scope gpos) 0 (.ref it) .none (genEnv scope (cloFrom X.env.cells scope.names []) s₄.heap.objs.size (.ref c1) bi X.env))),
            toks := s₄.toks + 1 + 1 + 1,
            heap := h'.push { cls := .type "generator", data := .fields #[.int s₄.gens.size 0, .str "<genexpr>" (s₄.toks + 1), .str (X.env.qual ++ "<genexpr>") (s₄.toks + 1 + 1)] } }) X.xe s3 := by
    intro c1 P1 H2 s3 I2 hsz3 kf n2 tk cc t1
    refine wpAny_builtinsFor (m := X.mg) (by rw [I2.ok.glob]; exact I2.mod.glob.keeps I2.bk) e1 e2 (I2.bk _ _ e5) e6 e7 e8 ?_
    intro h' hn' hs'
    generalize hgo : ({ cls := .type "generator", data := .fields #[.int s3.gens.size 0, .str "<genexpr>" (s3.toks + 1), .str (X.env.qual ++ "<genexpr>") (s3.toks + 1 + 1)] } : Obj) = go
    have gcls : go.cls = .type "generator" := by rw [← hgo]
    have gdat : go.data = .fields #[.int s3.gens.size 0, .str "<genexpr>" (s3.toks + 1), .str (X.env.qual ++ "<genexpr>") (s3.toks + 1 + 1)] := by rw [← hgo]
    have gsl : go.slots = #[] := by rw [← hgo]
    have gfr : (h'.push go).get? h'.objs.size = some go := by
      rw [← hgo]
      exact Heap.get?_push_size _ rfl
    have gen_of : ∀ {hp : Heap}, hp.get? h'.objs.size = some go → hp.IsGen h'.objs.size s3.gens.size := fun {hp} e => ⟨go, _, _, e, gcls, gdat, gsl⟩
    have hsz : h'.objs.size = s3.heap.objs.size + 1 := by rw [hs'.1, Heap.size_push]
    have keep' : ∀ b o, s3.heap.get? b = some o → h'.get? b = some o := fun b o e => hs'.extBut b o (Nat.ne_of_lt (Heap.lt_size e)) (Heap.get?_push_of_some _ e)
    have keep5 : ∀ b o, s3.heap.get? b = some o → (h'.push go).get? b = some o := fun b o e => Heap.get?_push_of_some _ (keep' b o e)
    have f3 : ∀ b ∈ fp, FpOk X pins H2 b ∧ b < s3.heap.objs.size := fun b hb => ⟨⟨n2 b hb, (f1 b hb).2⟩, Nat.lt_of_lt_of_le (sz b hb) hsz3⟩
    obtain ⟨W, ⟨m0, w0⟩, turn⟩ := q c1 P1 H2 tk cc t1
    have hA : (X.A.in1.in1.deeper (gEnv X scope s3.heap.objs.size (.ref c1))).frames = some (gEnv X scope s3.heap.objs.size (.ref c1) :: X.stack) := by
      show X.A.frames.map _ = _
      rw [I2.ok.frames]
      rfl
    have hrm : Room k (X.A.in1.in1.deeper (gEnv X scope s3.heap.objs.size (.ref c1))) :=
      ⟨hr.hd, by have := hr.dp; show X.A.depth + 1 + 3 * k + 5 < _; omega, by have := hr.un; show X.A.units + 1 + 1 + 3 + 16 * k + 200 < _; omega⟩
    have ga : s3.heap.objs.size < h'.objs.size := by omega
    have hpn : ∀ p ∈ [(h'.objs.size, go)], (h'.push go).get? p.1 = some p.2 ∧ s3.heap.objs.size < p.1 ∧ ∀ v, p.2.data ≠ .cell v := fun p hp => by
      rw [List.mem_singleton.mp hp]
      exact ⟨gfr, ga, fun v z => by
        have z : go.data = .cell v := z
        rw [gdat] at z
        cases z⟩
    have start : ∀ {g' : Array GenState} {t' : Nat}, AllBare g' → Inv (gcx X s3 H2 (gEnv X scope s3.heap.objs.size (.ref c1)) (X.A.in1.in1.deeper (gEnv X scope s3.heap.objs.size (.ref c1))) fp [(h'.objs.size, go)]) [] (wipe σ (own.map (·.2))) H2 { s3 with heap := h'.push go, gens := g', toks := t' } := fun {g' t'} hb =>
      gen_start I2 ok hN S.cell f3 hA hr.hd hb (hn'.push _) keep5 hpn
    have st5 : tn 0 (h'.push go) := T.keep 0 _ _ st1 fun b hb o e => keep5 b o (kf b hb o e)
    refine hQ (gcx X s3 H2 (gEnv X scope s3.heap.objs.size (.ref c1)) (X.A.in1.in1.deeper (gEnv X scope s3.heap.objs.size (.ref c1))) fp [(h'.objs.size, go)]) fp it tn J h'.objs.size s3.gens.size (m0 + 1) _ T rfl rfl (fun H3 s6 I6 => ?_) (fun H3 s6 I6 => ?_) (gen_of gfr) ⟨gen_of gfr, I2.nolimit.keeps keep5, _, Array.getElem?_push_size .., rfl, ?_⟩
    · exact gen_of (I6.pin (h'.objs.size, go) (List.mem_append_left _ (List.mem_singleton.mpr rfl))).1
    · exact I2.call' (ch := fp) I6.os I6.base I6.hok I6.bare fun b hb => ⟨(f3 b hb).1.2.2.2.1, (f3 b hb).1.2.1, (f3 b hb).1.2.2.2.2.1, (f3 b hb).1.2.2.2.2.2⟩
    · refine seg_start (X := gcx X s3 H2 (gEnv X scope s3.heap.objs.size (.ref c1)) (X.A.in1.in1.deeper (gEnv X scope s3.heap.objs.size (.ref c1))) fp [(h'.objs.size, go)]) (W := W) T rfl over_gen (fun b hb => hb) (fun p hp b hb => ?_) S.co (hg _ _ _ _ _ _ _) (he _ _ _ _ _ _ _ _ hrm) (fun _ _ z => z) turn (Nat.lt_succ_self m0) w0 ⟨?_, st5, n2⟩
      · rw [List.mem_singleton.mp hp]
        exact Nat.ne_of_gt (Nat.lt_trans (f3 b hb).2 ga)
      · exact start (allBare_setGen (s := { s3 with heap := h'.push go, gens := s3.gens.push _, toks := s3.toks + 1 + 1 + 1 }) (g := s3.gens.size) (I2.bare.push rfl) rfl)
  obtain ⟨ps, hP, ht, hents⟩ := tg1
  have hPs : s2.heap.get? P = some { cls := .none, data := .fields ps } := I1.hok P _ hP
  cases hf : codeAmong gpos ps.toList with
  | none =>
    refine wpAny_genexprCodeX hcode (hcd'.code hPs ht) (hcd'.tab hPs) hf fun c' h' tk hx hge hlt hco' _ htab' hnew => ?_
    obtain ⟨P', hP'ge, hic, htab2⟩ := hnew
    obtain ⟨_, _, _, _, _, _, _, _, _, _, _, _, _, _, _, _, _, _, _, _, hne⟩ := id hic
    have nC : H1 c' = none := I1.hok.fresh hge
    have nP' : H1 P' = none := I1.hok.fresh hP'ge
    refine cont c' P' _ _ (inv_code3 (t' := tk) I1 hP (fun b o hb e => hx b o hb e) htab'.2 hge hP'ge hne (PySem.W.CodeHd.of hic htab2) htab2.2) (Nat.le_trans hge (Nat.le_of_lt hlt)) (fun b hb o e => ?_) (fun b hb => ?_) (Tk.made hP ht nC nP' hne) (made3_c hne) (TG.nil made3_p _)
    · exact hx b o (fun z => by have q := (f1 b hb).1; rw [z, hP] at q; cases q) e
    · rw [made3_ne (fun z => by have q := (f1 b hb).1; rw [z, hP] at q; cases q) (Nat.ne_of_lt (Nat.lt_of_lt_of_le (sz b hb) hge)) (Nat.ne_of_lt (Nat.lt_of_lt_of_le (sz b hb) hP'ge))]
      exact (f1 b hb).1
  | some cv =>
    obtain ⟨c1, P1, rfl, a1, a2⟩ := hents gpos cv hf
    refine wpAny_genexprCode_hit hcode (hcd'.code hPs ht) hf ?_
    exact cont c1 P1 H1 s2 I1 (Nat.le_refl _) (fun _ _ _ e => e) (fun b hb => (f1 b hb).1) (Tk.refl _) a1 a2
theorem pe_anyG {p pos : Pos} (hr : Room (k + 1) X.A) (hgl : Gl X "any") (hm : X.mg "any" = none) (hN : X.N.Nodup) (hcode : X.env.code = .ref c) (hbm : BM X.base X.mg) (hi : PI X tg iter wi) (ok : BlkOk X.N X.env.scope scope own) (S : GScp scope)
    (hg : ∀ s H L code A fp pn, PG (gcx X s H (gEnv X scope L code) A fp pn) tg g) (he : ∀ s H L c1 P1 A fp pn, Room k A → PE (gcx X s H (gEnv X scope L (.ref c1)) A fp pn) elt (te c1 P1)) (hs : ∀ v, genFold iter X.env v = pure v)
    (hst : starEach [.GeneratorExp elt [⟨tg, iter, [], 0⟩] scope gpos] X.env = (false, eval (.GeneratorExp elt [⟨tg, iter, [], 0⟩] scope gpos) X.env) :: starEach [] X.env := by rfl) :
    PE X (.Call (.Name "any" p) [.GeneratorExp elt [⟨tg, iter, [], 0⟩] scope gpos] [] pos) (tGen X.base c P n true wi g te (own.map (·.2))) := by
  refine ⟨fun pins s σ H Q I h => ?_⟩
  refine wpAny_Call_Name_kw (ld_blt I hgl hm boot_any ?_)
  refine PyProof.Rows.callWith_builtin1 ?_ hst (by rfl)
  rw [hst]
  show wpAny _ _ (spliced ((false, eval (.GeneratorExp elt [⟨tg, iter, [], 0⟩] scope gpos) X.env) :: backTo pos (starEach [] X.env))) _ _ s
  refine Calls.spliced_cons (gen_make (stopv := true) hr hN hcode hbm hi ok S hg he hs I h fun Xg fp it tn J a gn m s5 T eP eW hgen back hg5 hw => ?_)
  refine Calls.spliced_nil ?_
  refine call_function_tree F.kind_any F.plain_any F.entry_any (F.args_any1 _) ?_
  unfold Builtin.«any»
  refine wpAny_bind (m := oneArg "any" _) (wpAny_pure ?_)
  refine wpAny_bind (wpAny_pyIter_gen hg5 ?_)
  refine wpAny_pure ⟨plainId_quiet F.plain_any_loop _, ?_⟩
  have d := any_drain (A := X.A) (R := fun r s' => match r with | .ok (.ret v) => EP X pins σ Q v s' | .ok _ => False | .error e => X.xe e s') T hr.hd (show X.A.depth < _ from hr.depth) hgen
    (fun H s' I q => ⟨.bl false, H, back H s' I, rfl, q⟩) (fun H s' I q => ⟨.bl true, H, back H s' I, rfl, q⟩) m s5 hw
  rw [eP, eW] at d
  exact d
theorem pe_allG {p pos : Pos} (hr : Room (k + 1) X.A) (hgl : Gl X "all") (hm : X.mg "all" = none) (hN : X.N.Nodup) (hcode : X.env.code = .ref c) (hbm : BM X.base X.mg) (hi : PI X tg iter wi) (ok : BlkOk X.N X.env.scope scope own) (S : GScp scope)
    (hg : ∀ s H L code A fp pn, PG (gcx X s H (gEnv X scope L code) A fp pn) tg g) (he : ∀ s H L c1 P1 A fp pn, Room k A → PE (gcx X s H (gEnv X scope L (.ref c1)) A fp pn) elt (te c1 P1)) (hs : ∀ v, genFold iter X.env v = pure v)
    (hst : starEach [.GeneratorExp elt [⟨tg, iter, [], 0⟩] scope gpos] X.env = (false, eval (.GeneratorExp elt [⟨tg, iter, [], 0⟩] scope gpos) X.env) :: starEach [] X.env := by rfl) (hb : bootBuiltins "all" = some (.builtin "all") := by decide +kernel) :
    PE X (.Call (.Name "all" p) [.GeneratorExp elt [⟨tg, iter, [], 0⟩] scope gpos] [] pos) (tGen X.base c P n false wi g te (own.map (·.2))) := by
  refine ⟨fun pins s σ H Q I h => ?_⟩
  refine wpAny_Call_Name_kw (ld_blt I hgl hm hb ?_)
  refine PyProof.Rows.callWith_builtin1 ?_ hst (by rfl)
  rw [hst]
  show wpAny _ _ (spliced ((false, eval (.GeneratorExp elt [⟨tg, iter, [], 0⟩] scope gpos) X.env) :: backTo pos (starEach [] X.env))) _ _ s
  refine Calls.spliced_cons (gen_make (stopv := false) hr hN hcode hbm hi ok S hg he hs I h fun Xg fp it tn J a gn m s5 T eP eW hgen back hg5 hw => ?_)
  refine Calls.spliced_nil ?_
  refine call_function_tree F.kind_all F.plain_all F.entry_all (F.args_all1 _) ?_
  unfold Builtin.«all»
  refine wpAny_bind (m := oneArg "all" _) (wpAny_pure ?_)
  refine wpAny_bind (wpAny_pyIter_gen hg5 ?_)
  refine wpAny_pure ⟨plainId_quiet F.plain_all_loop _, ?_⟩
  have d := all_drain (A := X.A) (R := fun r s' => match r with | .ok (.ret v) => EP X pins σ Q v s' | .ok _ => False | .error e => X.xe e s') T hr.hd (show X.A.depth < _ from hr.depth) hgen
    (fun H s' I q => ⟨.bl true, H, back H s' I, rfl, q⟩) (fun H s' I q => ⟨.bl false, H, back H s' I, rfl, q⟩) m s5 hw
  rw [eP, eW] at d
  exact d
/-- over a list that the element leaves as it is: Pv by the turn and the heap -/
theorem gw_list {K : PySem.W.Frag} {a : Addr} {xs : List V} {te : TE} {vs : List Nat} {σ : L2.St} {Qs Qe : Hp → Prop} {H : Hp} (Pv : Nat → Hp → Prop) (h0 : Pv 0 H) (hl : ∀ i H, i ≤ xs.length → Pv i H → SqL K H a xs)
    (hs : ∀ i x H, xs[i]? = some x → Pv i H → g x (wipe σ vs) H fun σ2 H2 => wipe σ2 vs = wipe σ vs ∧ te σ2 H2 fun y H3 => ∃ b, y = .bl b ∧ (b = stopv → Qs H3) ∧ (b ≠ stopv → Pv (i + 1) H3)) (hd : ∀ H, Pv xs.length H → Qe H) :
    ∃ W : Nat → Nat → Hp → Prop, (∃ m, W 0 m H) ∧ GW (Itl K a) g te vs σ stopv Qs Qe W := by
  refine ⟨fun i m H => m = xs.length - i ∧ i ≤ xs.length ∧ Pv i H, ⟨xs.length, by simp, Nat.zero_le _, h0⟩, ?_⟩
  rintro i m H ⟨rfl, hi, p⟩
  have q := hl i H hi p
  by_cases hlt : i < xs.length
  · refine .inr ⟨⟨xs, xs[i], q, by simp [hlt]⟩, Pv (i + 1), fun H' p' => ⟨xs.length - (i + 1), by omega, rfl, hlt, p'⟩, fun x H' y => ?_⟩
    obtain ⟨e, y⟩ := y
    subst e
    exact hs i x _ (y xs q) p
  · have e : i = xs.length := by omega
    subst e
    exact .inl ⟨⟨xs, q, Nat.le_refl _⟩, hd H p⟩
end
end GA

set_option Elab.async false
set_option linter.all false
set_option maxRecDepth 100000
set_option maxHeartbeats 2000000
/-! G3: a list comprehension whose element may raise out of a call. -/
namespace GC
open PySem PySem.Spec PyProof.Rows L2
section
variable {X : Cx} {pins : List (Addr × Obj)} {σ : L2.St} {H3 : Hp} {s3 : Shared}
/-- the block's context, with a wish about exceptions -/
abbrev blkX (X : Cx) (s : Shared) (H : Hp) (scope : Scope) (cenv : Env) (fp : List Addr) (xe : Value → Shared → Prop) : Cx := (X.blk s H scope cenv fp).wish xe
/-- the wish of the block -/
abbrev bxe (X : Cx) (cenv : Env) : Value → Shared → Prop := notedBy (model X.prog X.w) X.A cenv (CompFails (model X.prog X.w) X.A X.xe cenv)
theorem heldZ_small {B B' : Heap} {l : List Env} {a : Addr} {Z : Obj → Prop} {L : Addr} {h : Heap} (k : ∀ b o, B'.get? b = some o → B.get? b = some o) (x : HandSPX.HeldZ B l a Z L h) : HandSPX.HeldZ B' l a Z L h := by
  obtain ⟨x1, x2, x3, oe, vs, T, oT, ts, e1, e2, e3, e4, e5, e6⟩ := x
  have nn : ∀ b, B.get? b = none → B'.get? b = none := fun b n => by
    cases q : B'.get? b with
    | none => rfl
    | some o =>
      rw [k b o q] at n
      cases n
  exact ⟨fun b o e => x1 b o (k b o e), nn _ x2, funFrames_none x3 fun b hb => nn b (by
    obtain ⟨e, he, q⟩ := List.mem_filterMap.mp hb
    exact (x3.mem hb).1), oe, vs, T, oT, ts, e1, e2, e3, e4, nn _ e5, e6⟩
theorem passes_blk {E : XK} {fp : List Addr} {scope : Scope} {ce : Env} (hs : X.stack = X.env :: X.outer) (hf : X.env.frame = some X.env.locals) (tk : Takes X (fun cls d _ H => E cls d H)) (I3 : Inv X pins σ H3 s3) (hfp : ∀ b ∈ fp, FpOk X pins H3 b) (hL : ce.locals = s3.heap.objs.size) (hfr : ce.frame = X.env.frame) :
    ∀ σ', PassesAt (L2.CX X.prog X.w) (blkX X s3 H3 scope ce fp (bxe X ce)) σ' E := by
  intro σ' pn H s e s' J c
  obtain ⟨a, B, H', cls, d, rfl, fl, hok, ub, na, os, ag, hE⟩ := c
  have fl : HandSPX.FlyingZ B X.stack a (Zc cls d) s'.heap := fl
  have hok : HOk X.prog X.w H' B := hok
  have ub : UB (frs X.stack) H H' s.heap B s'.heap := ub
  have hA : X.A.frames = some (X.env :: X.outer) := by rw [I3.ok.frames, hs]
  have stk0 : ∀ b ∈ frs X.stack, b < s3.heap.objs.size := fun b hb => by
    rcases List.mem_cons.mp (I3.stkSub b hb) with z | z
    · rw [z]; exact I3.lt
    · obtain ⟨_, o, ho, _⟩ := I3.funs.mem z
      exact Heap.lt_size ho
  -- the block's own dict is no frame
  have nLf : ce.locals ∉ frs X.stack := fun hb => by
    have := stk0 _ hb
    rw [hL] at this
    exact Nat.lt_irrefl _ this
  -- the state without the exception: objects of the ground and the frames, but for the block's dict
  obtain ⟨G, g1, g2⟩ := restrict s'.heap fun b => ((B.get? b).isSome || decide (b ∈ frs X.stack)) && decide (b ≠ ce.locals)
  obtain ⟨B', b1, b2⟩ := restrict B fun b => decide (b ≠ ce.locals)
  have st : B.StaysIn s'.heap := fl.1
  have bB : ∀ b o, B'.get? b = some o → B.get? b = some o ∧ b ≠ ce.locals := fun b o e => by
    by_cases hb : b = ce.locals
    · rw [b2 b (by simp [hb])] at e
      cases e
    · rw [b1 b (by simp [hb])] at e
      exact ⟨e, hb⟩
  have Bb : ∀ b o, b ≠ ce.locals → B.get? b = some o → B'.get? b = some o := fun b o hb e => by
    rw [b1 b (by simp [hb])]
    exact e
  have gB : ∀ b o, b ≠ ce.locals → B.get? b = some o → G.get? b = some o := fun b o hb e => by
    rw [g1 b (by simp [e, hb])]
    exact st b o e
  have gF : ∀ b, b ∈ frs X.stack → G.get? b = s'.heap.get? b := fun b hb => g1 b (by
    have : b ≠ ce.locals := fun z => nLf (by rw [← z]; exact hb)
    simp [hb, this])
  have og : ∀ b o, G.get? b = some o → s'.heap.get? b = some o ∧ b ≠ ce.locals ∧ ((B.get? b).isSome = true ∨ b ∈ frs X.stack) := fun b o e => by
    cases q : (((B.get? b).isSome || decide (b ∈ frs X.stack)) && decide (b ≠ ce.locals)) with
    | false => rw [g2 b q] at e; cases e
    | true =>
      rw [g1 b q] at e
      have q' := Bool.and_eq_true_iff.mp q
      exact ⟨e, of_decide_eq_true q'.2, by simpa [Bool.or_eq_true] using q'.1⟩
  have lt3 : ∀ b o, s3.heap.get? b = some o → b ≠ ce.locals := fun b o e => by
    rw [hL]; exact Nat.ne_of_lt (Heap.lt_size e)
  have freeL : H ce.locals = none := J.free
  have freeL' : H' ce.locals = none := by
    obtain ⟨m, ⟨o, es, ep, ho, _⟩, _⟩ := J.loc
    exact ub.free _ o ho freeL
  -- from the comprehension's beginning to the ground
  have U : Un (frs X.stack) fp H3 H' s3.heap G := by
    have u0 := J.base
    have u0 : Un (frs X.stack) fp H3 H s3.heap s.heap := u0
    refine ⟨fun b o e n hb hx => ?_, fun b o e n hb hx => ?_, fun b o e n hx => ?_, fun b o e hx => ?_, fun b xs e => ub.tups b xs (u0.tups b xs e), fun b o xs e => ub.frzs b o xs (u0.frzs b o xs e), fun b ps e => ?_⟩
    · exact gB b o (lt3 b o e) (ub.keep b o (u0.keep b o e n hb hx) (u0.free b o e n hx) hb)
    · obtain ⟨sl, q⟩ := u0.slot b o e n hb hx
      obtain ⟨sl', q'⟩ := ub.slot b _ q hb
      exact ⟨sl', by rw [gF b hb]; exact q'⟩
    · obtain ⟨o', q⟩ := u0.there b o e hx
      exact ub.free b o' q (u0.free b o e n hx)
    · obtain ⟨o', q⟩ := u0.there b o e hx
      by_cases hb : b ∈ frs X.stack
      · obtain ⟨sl, q'⟩ := ub.slot b o' q hb
        exact ⟨_, by rw [gF b hb]; exact q'⟩
      · obtain ⟨o2, q2⟩ := ub.there b o' q hb
        exact ⟨o2, gB b o2 (lt3 b o e) q2⟩
    · obtain ⟨m1, q1⟩ := u0.tbls b ps e
      obtain ⟨m2, q2⟩ := ub.tbls b _ q1
      exact ⟨m1 ++ m2, by rw [q2, Array.append_assoc]⟩
  have hokG : HOk X.prog X.w H' G := fun b o q => (hok b o q).stay (fun c u hc r => gB c u (fun z => by
    rcases hc with hc | hc
    · rw [← hc, z, freeL'] at q; cases q
    · rw [z, freeL'] at hc; cases hc) r) (fun _ r => r) fun _ _ r => r
  have os' : s'.os = s3.os := os.trans J.os
  have IG : Inv X pins σ H' { s3 with heap := G, gens := s'.gens, drawn := s'.drawn, toks := s'.toks } :=
    I3.call (ch := fp) U hokG ag fun b hb => ⟨(hfp b hb).2.2.2.1, (hfp b hb).2.1, (hfp b hb).2.2.2.2.1, (hfp b hb).2.2.2.2.2⟩
  -- the way of the exception
  show wpAny (model X.prog X.w) X.A (noteFrame (.ref a) ce) _ _ _
  rw [noteFrame_env _ hfr]
  rw [hs] at fl
  refine HandSPX.looks_onZ Zc.steady hA hf fl fun h' hH up => ?_
  have hH' := heldZ_small (B' := B') (fun b o e => (bB b o e).1) hH
  -- the block's dict stands
  obtain ⟨m, hn, _⟩ := J.loc
  obtain ⟨oL, esL, epL, hoL, hdL, hrL⟩ := hn
  have hoL : s.heap.get? ce.locals = some oL := hoL
  have hLB : B.get? ce.locals = some oL := ub.keep _ oL hoL freeL nLf
  have hL' : h'.get? ce.locals = some oL := hH.1 _ _ hLB
  refine ⟨m, ⟨oL, esL, epL, hL', hdL, hrL⟩, fun h2 m2 hn2 hs2 => ?_⟩
  have hH2 : HandSPX.HeldZ B' (X.env :: X.outer) a (Zc cls d) X.env.locals h2 := by
    obtain ⟨x1, x2, x3, oe, vs, T, oT, ts, e1, e2, e3, e4, e5, e6, e7, e8, e9⟩ := hH'
    have nd : ∀ {b : Addr} {o : Obj} {vs : Array Value}, h'.get? b = some o → o.data = .fields vs → b ≠ ce.locals := fun {b o vs} e dd z => by
      rw [z, hL'] at e
      cases e
      rw [hdL] at dd
      cases dd
    refine ⟨fun b o e => (hs2.2 b (bB b o e).2).trans (x1 b o e), x2, ?_, oe, vs, T, oT, ts, (hs2.2 _ (nd e1 e3)).trans e1, e2, e3, e4, e5, e6, (hs2.2 _ (nd e7 e8)).trans e7, e8, e9⟩
    exact Heap.FunFrames.sameBut hs2 hn2 x3
  obtain ⟨x1, x2, x3, oe, vs, T, oT, ts, e1, e2, e3, e4, e5, e6, e7, e8, e9⟩ := id hH2
  unfold PySem.passOn
  refine wpAny_bind (wpAny_field e1 e3 e4 ?_)
  rw [if_neg (show ¬ ((Value.ref T == Value.none) = true) from by simp)]
  rw [hfr, hf]
  refine wpAny_bind (HandSPX.setFlight_onZ hH2 fun h4 hH4 up4 => ?_)
  refine wpAny_throw (tk _ _ ?_)
  refine ⟨a, B', { s3 with heap := G, gens := s'.gens, drawn := s'.drawn, toks := s'.toks }, pins, σ, H', cls, d, rfl, IG, fun b o e hb => ?_, fun b o e hnf => ?_, .inr (.inr (by rw [hs]; exact hH4)), na, os', ag, hE⟩
  · obtain ⟨q1, q2, q3⟩ := og b o e
    rcases q3 with q3 | q3
    · obtain ⟨o', q⟩ := Option.isSome_iff_exists.mp q3
      have z := st b o' q
      rw [q1] at z; cases z
      exact Bb b _ q2 q
    · exact absurd q3 hb
  · obtain ⟨q1, q2, _⟩ := og b o e
    obtain ⟨sl, r1⟩ := up b o q1 hnf
    have r2 : h2.get? b = some { o with slots := sl } := (hs2.2 b q2).trans r1
    exact up4 b { o with slots := sl } r2 hnf
end
section
variable {X : Cx}
/-- the reading of tLc serves; the element raises as the def's wish E says -/
theorem pe_lcX {elt tg iter : Expr} {scope : Scope} {own : List (Str × Nat)} {pos : Pos} {wi : TI} {g : TG} {te : TE} {E : XK} (hs : X.stack = X.env :: X.outer) (hf : X.env.frame = some X.env.locals) (tk : Takes X (fun cls d _ H => E cls d H)) (hc : X.calm = true) (hN : X.N.Nodup) (hi : PI X tg iter wi) (ok : BlkOk X.N X.env.scope scope own)
    (hg : ∀ (s : Shared) (H : Hp) (C : Addr) (cl : List (Str × Addr)) (fp : List Addr), PG (X.blk s H scope (compEnvC scope cl C X.env) fp) tg g)
    (he : ∀ (s : Shared) (H : Hp) (C : Addr) (cl : List (Str × Addr)) (fp : List Addr) (xe : Value → Shared → Prop), (∀ σ', PassesAt (L2.CX X.prog X.w) (blkX X s H scope (compEnvC scope cl C X.env) fp xe) σ' E) → PE (blkX X s H scope (compEnvC scope cl C X.env) fp xe) elt te)
    (hfs : ∀ x, foldedSetIterable iter X.env x = pure x := by intro _; rfl) :
    PE X (.ListComp elt [⟨tg, iter, [], 0⟩] scope pos) (tLc wi g tYes te (own.map (·.2))) := by
  refine ⟨fun pins s σ H Q I h => ?_⟩
  rw [eval_ListComp]
  have hfree : ∀ y ∈ scope.names, y.2 = .free → ∃ c, X.env.cells.lookup y.1 = some c := fun y hy e => by
    rcases ok.free y hy e with k | k
    · exact I.ok.has _ (.inl k)
    · exact I.ok.has _ (.inr k)
  refine comprehension_at (use := none) rfl hfs (closure_ok hfree) ok.kind (fun y hy e => by rw [ok.uniq y hy, e])
    (thn (hi.run pins s σ H _ I h) fun xv s1 hx => thn hx fun itv s2 h2 => ?_)
  obtain ⟨it, fp, tn, J, H2, e, I2, T, st2, f2, q⟩ := h2
  subst e
  refine wpAny_newObj_type (newEnv_comp ?_) (by show 0 ≤ sizeLine; decide)
  generalize hD : s2.heap.objs.size = D
  have hDn : H2 D = none := I2.hok.fresh (Nat.le_of_eq hD)
  obtain ⟨W, ⟨m0, w0⟩, turn⟩ := q D hDn
  generalize hs3 : ({ s2 with heap := s2.heap.push { cls := .type "list", data := .seq ([] : List Value).toArray } } : Shared) = s3
  have I3 : Inv X pins σ (upd H2 D (.lst [])) s3 := by
    rw [← hs3]
    refine I2.laid (t' := s2.toks) (fun b o e => Heap.get?_push_of_some _ e) (Nat.le_of_eq hD) ⟨Nat.zero_le _, [], 0, .nil, ?_⟩
    rw [← hD]
    exact Heap.get?_push_size _ rfl
  have h3 : s3.heap = s2.heap.push { cls := .type "list", data := .seq ([] : List Value).toArray } := by rw [← hs3]
  have sz : ∀ b ∈ fp, b < s2.heap.objs.size := fun b hb => by
    obtain ⟨o, e, _⟩ := T.obj _ _ st2 b hb
    exact Heap.lt_size e
  have f3 : ∀ b ∈ fp, FpOk X pins (upd H2 D (.lst [])) b ∧ b < s3.heap.objs.size := fun b hb => by
    have hlt := sz b hb
    refine ⟨⟨?_, (f2 b hb).2⟩, by rw [h3, Heap.size_push]; exact Nat.lt_succ_of_lt hlt⟩
    rw [upd_ne (by rw [← hD]; exact Nat.ne_of_lt hlt)]
    exact (f2 b hb).1
  have st3 : tn 0 s3.heap := T.keep _ _ _ st2 fun b _ o e => by rw [h3]; exact Heap.get?_push_of_some _ e
  have I4 := block_start I3 ok hN f3
  have pg := hg s3 (upd H2 D (.lst [])) s3.heap.objs.size (cellsFrom (s3.heap.objs.size + 1) scope.names (cloFrom X.env.cells scope.names [])) fp
  have pe := he s3 (upd H2 D (.lst [])) s3.heap.objs.size (cellsFrom (s3.heap.objs.size + 1) scope.names (cloFrom X.env.cells scope.names [])) fp (bxe X (compEnvC scope (cellsFrom (s3.heap.objs.size + 1) scope.names (cloFrom X.env.cells scope.names [])) s3.heap.objs.size X.env))
    (passes_blk hs hf tk I3 (fun b hb => (f3 b hb).1) rfl rfl)
  show codeAny _ _ (.compStart (.ListComp elt [⟨tg, iter, [], 0⟩] scope pos) 0 (.ref it) (.ref D) (compEnvC scope (cellsFrom (s3.heap.objs.size + 1) scope.names (cloFrom X.env.cells scope.names [])) s3.heap.objs.size X.env)) (compEnds (model X.prog X.w) X.A X.xe none (EP X pins σ Q) (.ref D) (compEnvC scope (cellsFrom (s3.heap.objs.size + 1) scope.names (cloFrom X.env.cells scope.names [])) s3.heap.objs.size X.env)) { s3 with heap := pushCells (s3.heap.push { cls := .type "dict", data := .dict #[] }) scope.names }
  have nfp : ∀ b ∈ fp, (upd H2 D (.lst [])) b = none := fun b hb => (f3 b hb).1.1
  generalize hce : compEnvC scope (cellsFrom (s3.heap.objs.size + 1) scope.names (cloFrom X.env.cells scope.names [])) s3.heap.objs.size X.env = ce at I4 pg pe ⊢
  have cL : ce.locals = s3.heap.objs.size := by subst hce; rfl
  generalize hH3 : upd H2 D (.lst []) = H3 at I3 I4 pg pe w0 nfp f3
  generalize hs4 : ({ s3 with heap := pushCells (s3.heap.push { cls := .type "dict", data := .dict #[] }) scope.names } : Shared) = s4 at I4 ⊢
  have st4 : tn 0 s4.heap := T.keep _ _ _ st3 fun b _ o e => by rw [← hs4]; exact pushCells_keeps _ _ _ _ (Heap.get?_push_of_some _ e)
  have stat : ∀ {σ' : L2.St} {H' : Hp} {s' : Shared}, Inv (X.blk s3 H3 scope ce fp) [] σ' H' s' → (∀ b ∈ fp, H' b = none) → ∀ b ∈ fp, FpOk (X.blk s3 H3 scope ce fp) [] H' b := fun {σ' H' s'} I' hn b hb =>
    ⟨hn b hb, (I'.ok.exf b hb).1, I'.ok.exfs b hb, .inl hb, fun x c e => (I'.ok.exf b hb).2 x c e, fun p hp => absurd (show p ∈ ([] : List (Addr × Obj)) ++ [] from hp) (by simp)⟩
  have loop : codeAny (model X.prog X.w) X.A (.compLoop (.ListComp elt [⟨tg, iter, [], 0⟩] scope pos) 0 (.ref it) (.ref D) ce) (compEnds (model X.prog X.w) X.A X.xe none (EP X pins σ Q) (.ref D) ce) s4 := by
    refine compLoop_any (fun n s' => ∃ i H', Inv (X.blk s3 H3 scope ce fp) [] (wipe σ (own.map (·.2))) H' s' ∧ tn i s'.heap ∧ (∀ b ∈ fp, H' b = none) ∧ W i n H') ?_ m0 ⟨0, H3, I4, st4, nfp, w0⟩
    rintro n s5 ⟨i, H5, I5, st5, n5, w5⟩
    rcases turn i n H5 w5 with ⟨stop, qq⟩ | ⟨go, Nx, hNx, step⟩
    · have td := T.done (X.blk s3 H3 scope ce fp) rfl rfl rfl hc i [] s5 _ H5 (fun _ _ => False) I5 (stat I5 n5) st5 stop
      refine thnF td fun r s6 h6 => ?_
      obtain ⟨hr, I6⟩ := h6
      subst hr
      have I7 : Inv X pins σ H5 s6 := I3.call' (ch := fp) I6.os I6.base I6.hok I6.bare fun b hb => ⟨(f3 b hb).1.2.2.2.1, (f3 b hb).1.2.1, (f3 b hb).1.2.2.2.2.1, (f3 b hb).1.2.2.2.2.2⟩
      have nC : H5 s3.heap.objs.size = none := by
        have z : H5 ce.locals = none := I6.free
        rw [cL] at z
        exact z
      obtain ⟨m, hn, _⟩ := I6.loc
      have hn : s6.heap.Ns ce.locals m := hn
      obtain ⟨f0, f1, f2', f3', f4, f5⟩ := I3.fpOk (H' := H5) (Nat.le_refl _) nC
      refine ⟨m, hn, fun h'' sb => ?_⟩
      have sb : Heap.SameBut ce.locals s6.heap h'' := sb
      rw [cL] at sb
      exact ⟨.ref D, H5, I7.turned (t' := s6.toks) (fun b o hb e => (sb.2 b hb).trans e) f0 f1 f3' f4 f5, rfl, qq⟩
    · have ti := T.item (X.blk s3 H3 scope ce fp) rfl rfl rfl hc i [] s5 _ H5 (fun _ _ => False) I5 (stat I5 n5) st5 go
      refine thnF ti fun r s6 h6 => ?_
      obtain ⟨u, hr, h6⟩ := h6
      subst hr
      refine thnF h6 fun _ s7 h7 => ?_
      obtain ⟨x, H7, I7, r7, y7, st7, n7⟩ := h7
      have I7' := I7.pinned (stat I7 n7) (T.obj _ _ st7)
      refine thnF (pg.run _ s7 _ H7 x u _ I7' r7 (step x H7 y7)) fun _ s8 h8 => ?_
      obtain ⟨σ8, H8, I8, hw8, q8⟩ := h8
      refine wpAny_tests_nil ?_
      have q8 : te σ8 H8 fun y H4 => ∃ acc, H4 D = some (.lst acc) ∧ acc.length < sizeLine ∧ Nx (upd H4 D (.lst (acc ++ [y]))) := by
        exact (show (if true = true then te σ8 H8 fun y H4 => ∃ acc, H4 D = some (.lst acc) ∧ acc.length < sizeLine ∧ Nx (upd H4 D (.lst (acc ++ [y]))) else Nx H8) from q8)
      simp only [if_true]
      have fin : ∀ {s' : Shared} {H' : Hp}, Inv (X.blk s3 H3 scope ce fp) ([] ++ pinsAt fp s7.heap) σ8 H' s' → Nx H' → ∃ m, m < n ∧ ∃ i H', Inv (X.blk s3 H3 scope ce fp) [] (wipe σ (own.map (·.2))) H' s' ∧ tn i s'.heap ∧ (∀ b ∈ fp, H' b = none) ∧ W i m H' := fun {s' H'} I' nx => by
        obtain ⟨m', hm, w'⟩ := hNx H' nx
        have pin' : ∀ b ∈ fp, ∀ o, s7.heap.get? b = some o → s'.heap.get? b = some o ∧ H' b = none := fun b hb o e =>
          let z := I'.pin (b, o) (List.mem_append_right _ (List.mem_append_right _ (mem_pinsAt hb e)))
          ⟨z.1, z.2.1⟩
        have hl : (wipe σ (own.map (·.2))).length = σ8.length := by rw [← hw8, wipe_length]
        refine ⟨m', hm, i + 1, H', (I'.unpinned (pins := [])).weak hl (fun j v e => ?_), T.keep _ _ _ st7 fun b hb o e => (pin' b hb o e).1, fun b hb => ?_, w'⟩
        · rw [← hw8] at e
          exact (wipe_some e).1
        · obtain ⟨o, e, _⟩ := T.obj _ _ st7 b hb
          exact (pin' b hb o e).2
      refine wpAny_mono (pe.run _ s8 σ8 H8 _ (I8.wish _) q8) (fun z s10 h10 => ?_) fun e s' hx => hx
      obtain ⟨yv, H10, I10, r10, acc, hD10, hz10, nx⟩ := h10
      exact app_ok (X := X.blk s3 H3 scope ce fp) I10.unwish hD10 hz10 r10 fun s11 I11 => fin I11 nx
  exact codeAny_compStart_list loop (T.self X.A 0 _ _ _ st4 loop)
end
end GC

set_option Elab.async false
set_option linter.all false
set_option maxRecDepth 100000
set_option maxHeartbeats 4000000
/-! G4: an own exception (over an own class over ValueError) whose __init__ says super().__init__(f'..') and then self.name = name. -/
namespace PySem
namespace ErrX
open PySem.W PySem.Calls PyProof.Rows PySem.HandSPX
/-! ### the text of __init__ -/
def iA (p1 p2 : Pos) : Arguments := { posonlyargs := [], args := [{ arg := "self", annotation := none, pos := p1 }, { arg := "name", annotation := none, pos := p2 }], vararg := none, kwonlyargs := [], kw_defaults := [], kwarg := none, defaults := [] }
def iB (vs : List PySem.Expr) (jp p0 p1 p2 p3 p4 q1 q2 q3 q4 : Pos) : List Stmt :=
  [.Expr (.Call (.Attribute (.Call (.Name "super" p0) [] [] p1) "__init__" p2) [.JoinedStr vs jp] [] p3) p4, .Assign [.Attribute (.Name "self" q1) "name" q2] (.Name "name" q3) q4]
def iS : Scope := { kind := .function, names := [(PySem.Str.ofString "self", .local), (PySem.Str.ofString "name", .local), (PySem.Str.ofString "__class__", .free), (PySem.Str.ofString "super", .globalImplicit)], isGenerator := false, isCoroutine := false, more := [] }
/-- the text of the error: some text, whatever the name is -/
def JsOk (P : Program) (w : World) (vs : List PySem.Expr) (jp : Pos) : Prop := ∀ (A : Around) (E : Value → Shared → Prop) (env : Env) (s : Shared) (m : Str → Option Value) (n : Str) (tk : Tok) (Q : Value → Shared → Prop), env.scope = iS → s.heap.Ns env.locals m → m "name" = some (.str n tk) → n.length ≤ 100 →
  (∀ out tk' tks, Q (.str out tk') { s with toks := tks }) → wpAny (model P w) A (eval (.JoinedStr vs jp) env) Q E s
/-- what the written part says of the class C and of its __init__, at fI -/
structure ErrTxt (P : Program) (K : Frag) (mg : Str → Option Value) (x qual : Str) (C fI : Addr) : Prop where
  gC : mg x = some (.ref C)
  sup : mg "super" = none
  cls : ∃ nm q N bs bm sn sub ab col dd k0 k1 k2 k3 k5, K.lookup C = some (excClassObj nm q C N bs bm true sn sub ab col dd k0 k1 k2 k3 k5 "ValueError.__new__") ∧ refsVE bm = true ∧ alongIn K "__init__" bm = some (some (.builtin "ValueError.__init__"))
  sa : findIn K (.ref C) "__setattr__" = some (some (.builtin "object.__setattr__"))
  noN : findIn K (.ref C) "name" = some none
  iC : findIn K (.ref C) "__init__" = some (some (.ref fI))
  tC : typeIn K (.ref fI) = some (.type "function")
  kC : keepIn K (.ref C) = true
  exC : subIn K (.ref C) (.type "BaseException") = some true
  vE : subIn K (.ref C) (.type "ValueError") = some true
  mC : mroIn K C (.ref C) = some true
  tyC : typeIn K (.ref C) = some (.type "type")
  no3 : nsIn K cStatics "thirdparty.any" = some none
  htop : (P.main.scope.names.lookup ("super" : Str)).isSome = false
  fn : ∃ (oc : Value) (od : Option Addr) (doc pm : Value) (an : Option Addr) (cda : Addr) (ct : Value) (osl : Array (Option Value)) (cc : Addr) (vs : List PySem.Expr) (p1 p2 jp r0 r1 r2 r3 r4 q1 q2 q3 q4 : Pos) (ccl : Value) (cld : Option Addr) (csl : Array (Option Value)) (dcl : Value) (dld : Option Addr) (dvs : Array Value) (dsl : Array (Option Value)) (file : Str) (tf : Tok),
    K.lookup fI = some ⟨oc, od, .func (ksFn "__init__" qual (iA p1 p2) (iB vs jp r0 r1 r2 r3 r4 q1 q2 q3 q4) iS .none .none doc pm an (.ref cda) ct cc), osl⟩ ∧ codeIn K (.ref cda) qual = true ∧ K.lookup cc = some ⟨ccl, cld, .cell (some (.ref C)), csl⟩ ∧
      K.lookup cda = some ⟨dcl, dld, .fields dvs, dsl⟩ ∧ dvs[2]? = some (.str file tf) ∧ ((P.main.file : Str) == file) = true ∧ (r2.endLine == r3.line) = true ∧ ∀ w : World, JsOk P w vs jp
theorem he_meth {o e : PySem.Expr} {name : Str} {r2 r3 : Pos} {env : Env} (h : (r2.endLine == r3.line) = true) (hst : starEach [e] env = [(false, eval e env)] := by rfl) :
    eval (.Call (.Attribute o name r2) [e] [] r3) env = (do
      let ov ← attributeBase o name env (eval o env)
      standAt r2.atName
      let (f, first) ← holding [ov] (getMethod ov name (do return (← importBound o env).getD true))
      callWith r3 f first (backTo r3 (starEach [e] env)) []) := by
  have f : methodCallForm ([e].length + ([] : List PySem.Keyword).length) (backTo r3 (starEach [e] env)) (backToKw r3 (keywordEach [] env)) = true := by
    rw [hst]
    rfl
  have p : methodCallPos true o env r2 r3 = pure r3 := by
    unfold methodCallPos
    simp [h]
  rw [arm_eval_Call]
  unfold methodCall calleeOf
  simp only [f, p, if_true]
  rfl
theorem one_size (v : Value) : [v].length ≤ sizeLine := by
  rw [sizeLine_eq]
  exact (by decide : 1 ≤ 16777216)
section
variable {prog : Program} {w : World} {M : Model} {A : Around} {E : Value → Shared → Prop} {h : Heap} {g : Array GenState} {d : Drawn} {t : Nat} {os : OsState}
variable {nm q : Str} {C N : Addr} {bs bm : List Value} {hdct : Bool} {sn : List Str} {sub : List Value} {ab : Bool} {col : Option Bool} {dd : Option Addr} {k0 k1 k2 k3 k5 : Option Value}
/-- the bound ValueError.__init__, called -/
theorem call_vw {u e t0 : Addr} {rest : List Value} {Q : Value → Shared → Prop}
    (hC : h.get? C = some (excClassObj nm q C N bs bm hdct sn sub ab col dd k0 k1 k2 k3 k5 "ValueError.__new__")) (he : h.get? e = some (excO C t0)) (hu : h.get? u = some (kxs_mw "ValueError.__init__" e)) (hrest : rest.length ≤ sizeLine)
    (hq : ∀ h' t1, (∀ b o, b ≠ e → h.get? b = some o → h'.get? b = some o) → h'.get? e = some (excO C t1) → Q .none ⟨h', g, d, t, os⟩) :
    wpAny (model prog w) A (call (.ref u) rest) Q E ⟨h, g, d, t, os⟩ := by
  refine wpAny_call (codeAny_of_tree ?_)
  show wpAny _ A.in1 (callAny (.ref u) ⟨rest, []⟩) _ _ _
  simp only [callAny]
  refine wpAny_bind (wpAny_load hu ?_)
  simp only [kxs_mw, show (Value.type "method-wrapper" == Value.type "method" || Value.type "method-wrapper" == Value.type "builtin_function_or_method" || Value.type "method-wrapper" == Value.type "method-wrapper") = true by decide, if_true]
  refine KFB.if_so (by decide) ?_
  refine wpAny_bind (ESX.check_bound F.excBase_ValueError hC he rfl ?_)
  refine wpAny_bind (wpAny_pure (wpAny_pure ?_))
  refine ⟨plainId_quiet F.excBase_ValueError.init.plain _, codeAny_builtin F.excBase_ValueError.initEntry ?_⟩
  refine exc_init_tree (cls := .ref C) (t0 := t0) (dv := none) (c2 := .none) (c3 := .none) (b4 := .bool false) he hrest fun h' k e' t' => ?_
  exact hq h' _ k e'
end
/-- what __init__ leaves of a fresh exception at x -/
structure InitEnd (h h' : Heap) (x C dx t1 : Addr) (v : Value) : Prop where
  keep : ∀ b o, b ≠ x → h.get? b = some o → h'.get? b = some o
  obj : h'.get? x = some { cls := .ref C, dict := some dx, data := .fields #[.ref t1, .none, .none, .none, .bool false, .none] }
  dbig : h.objs.size ≤ dx
  dne : dx ≠ x
  ns : h'.Ns1 dx (fun y => if y = "name" then some v else none)
/-- a made error -/
structure OwnMade (h h' : Heap) (e C d : Addr) (v : Value) : Prop where
  keep : ∀ b o, h.get? b = some o → h'.get? b = some o
  new : h.objs.size ≤ e
  obj : ∃ oe vs, h'.get? e = some oe ∧ oe.cls = .ref C ∧ oe.dict = some d ∧ oe.data = .fields vs ∧ vs[1]? = some .none
  dbig : h.objs.size ≤ d
  dne : d ≠ e
  ns : h'.Ns1 d (fun y => if y = "name" then some v else none)
section
variable {P : Program} {w : World} {A : Around} {E : Value → Shared → Prop} {R : Result → Shared → Prop} {s : Shared} {K : Frag} {mg mb : Str → Option Value} {x qual : Str} {C fI : Addr}
theorem err_init (T : ErrTxt P K mg x qual C fI) {e t0 : Addr} {n : Str} {tn : Tok} (X : K.In s.heap) (hlim : s.heap.NoLimit) (hG : s.heap.Ns mainGlobals mg) (hB : s.heap.Ns builtinsNs mb) (hbb : mb "super" = some (.type "super")) (hx : s.heap.get? e = some (excO C t0)) (hnx : K.lookup e = none) (hroom : A.depth < recursionLimit) (hnl : n.length ≤ 100)
    (hq : ∀ h' tk dx t1, InitEnd s.heap h' e C dx t1 (.str n tn) → R (.ok (.ret .none)) { s with heap := h', toks := tk }) :
    codeAny (model P w) A (.call (.ref fI) ⟨[.ref e, .str n tn], []⟩) R s := by
  obtain ⟨oc, od, doc, pm, an, cda, ct, osl, cc, vs, p1, p2, jp, r0, r1, r2, r3, r4, q1, q2, q3, q4, ccl, cld, csl, dcl, dld, dvs, dsl, file, tf, ho, hcd, hcell, hcode, hvs, hfile, hline, hjs⟩ := T.fn
  obtain ⟨nm, q, N, bs, bm, sn, sub, ab, col, dd, k0, k1, k2, k3, k5, hC, hbm, hal⟩ := T.cls
  have hcl : clsIn K C = some { name := nm, bases := bs, mro := .ref C :: bm, ns := N, qualname := q, hasDict := true, slotNames := sn, subclasses := sub, abstract := ab, collection := col, hasDel := false } := by unfold clsIn; rw [hC] <;> rfl
  obtain ⟨hp, gg, dr, tk0, os⟩ := s
  refine ks_codeAny_call_defAt (fd := ksFn "__init__" qual (iA p1 p2) (iB vs jp r0 r1 r2 r3 r4 q1 q2 q3 q4) iS .none .none doc pm an (.ref cda) ct cc) (body := iB vs jp r0 r1 r2 r3 r4 q1 q2 q3 q4) (binds := [("self", .ref e), ("name", .str n tn)]) hroom (X _ _ ho) rfl hlim (codeRec_of X hcd) rfl (BindsTo.of_eq (by first | rfl | with_unfolding_all rfl)) (show ∀ x ∈ iS.names, x.2 ≠ .cell by decide) (fun y hy => by
    show iS.names.lookup y.1 = some .local
    rcases List.mem_cons.mp hy with rfl | hy
    · rfl
    · rw [List.mem_singleton.mp hy]
      rfl) (fun h₁ hn₁ k₁ => ?_) rfl rfl rfl
  have X₁ : K.In h₁ := X.keeps k₁
  have hx₁ := k₁ _ _ hx
  have lt1 : hp.objs.size < h₁.objs.size := hn₁.lt
  have exC : e ≠ C := fun z => by
    have a := X _ _ hC
    rw [← z, hx] at a
    cases a
  show wpAt _ _ (.func (iB vs jp r0 r1 r2 r3 r4 q1 q2 q3 q4) (ksEnv qual iS hp.objs.size fI (.ref cda) cc)) (execs (iB vs jp r0 r1 r2 r3 r4 q1 q2 q3 q4) (ksEnv qual iS hp.objs.size fI (.ref cda) cc)) _ _ _
  have hmS : h₁.Ns (ksEnv qual iS hp.objs.size fI (.ref cda) cc).locals (fun y => ([("self", .ref e), ("name", .str n tn)] : List (Str × Value)).reverse.lookup y) := hn₁
  have lookS : ([("self", .ref e), ("name", .str n tn)] : List (Str × Value)).reverse.lookup ("self" : Str) = some (.ref e) := by first | rfl | kernel_rfl
  have lookN : ([("self", .ref e), ("name", .str n tn)] : List (Str × Value)).reverse.lookup ("name" : Str) = some (.str n tn) := by first | rfl | kernel_rfl
  obtain ⟨oC, hC1, hC2⟩ : ∃ oC, h₁.get? C = some oC ∧ oC.data = .cls { name := nm, bases := bs, mro := .ref C :: bm, ns := N, qualname := q, hasDict := true, slotNames := sn, subclasses := sub, abstract := ab, collection := col, hasDel := false } := ⟨_, X₁ _ _ hC, rfl⟩
  refine ks_wpAt_execs_cons (ks_wpAt_Expr_any (ks_wpAt_MethodCall ?_ (he_meth hline)))
  refine ks_wpAt_super_base (env := ksEnv qual iS hp.objs.size fI (.ref cda) cc) (by rfl) (by rfl) (by decide) rfl (X₁ _ _ ho) rfl rfl rfl (X₁ _ _ hcode) rfl hvs hfile T.htop ?_
  refine ks_loadName_global rfl (by rfl) (loadGlobal_builtin (env := ksEnv qual iS hp.objs.size fI (.ref cda) cc) (hG.keeps k₁) T.sup (hB.keeps k₁) hbb ⟨rfl, ?_⟩)
  refine wpAny_loadName_free rfl (by rfl) rfl ⟨_, X₁ _ _ hcell, rfl⟩ ?_
  refine wpAny_loadName_local rfl (by rfl) hmS lookS ?_
  refine ks_wpAny_isType_cls hC1 hC2 ⟨rfl, ?_⟩
  refine ks_wpAny_call_super hC1 hC2 hx₁ rfl (fun c z => by cases z) (looks_mroIn X₁ T.mC) (fun h2 e2 k2 => ?_)
  have X₂ : K.In h2 := X₁.keeps k2
  have hx2 := k2 _ _ hx₁
  have I2 : InstAt h2 e (excO C t0) C none := ⟨hx2, rfl, rfl, trivial⟩
  have hI : Looks (model P w) h2 (isInstance (.ref e) (.type "ValueError")) true := I2.type.andThen (looks_subIn X₂ T.vE)
  refine kxs_getMethod kxs_ValueError e2 (looks_opaque X₂ T.no3) (l₀ := .ref C :: bm) ((looks_clsIn X₂ hcl).andThen .now) (l := bm) (by simp [List.dropWhile_cons]) X₂ hal hI exC (by decide) ?_
  have k3 : ∀ b o, h2.get? b = some o → (h2.push (kxs_mw "ValueError.__init__" e)).get? b = some o := fun b o z => Heap.get?_push_of_some _ z
  have hu : (h2.push (kxs_mw "ValueError.__init__" e)).get? h2.objs.size = some (kxs_mw "ValueError.__init__" e) := Heap.get?_push_size _ rfl
  have k03 : ∀ b o, h₁.get? b = some o → (h2.push (kxs_mw "ValueError.__init__" e)).get? b = some o := fun b o z => k3 b o (k2 b o z)
  show wpAny _ _ (callWith r3 (.ref h2.objs.size) [] (backTo r3 (starEach [.JoinedStr vs jp] _)) []) _ _ _
  refine kxs_callWith (i := "ValueError.__init__") (x := e) (by rfl) (evalArgs_plain ?_)
  show wpAny _ _ (spliced ((false, eval (.JoinedStr vs jp) _) :: backTo r3 (starEach [] _))) _ _ _
  refine Calls.spliced_cons (hjs w _ _ (ksEnv qual iS hp.objs.size fI (.ref cda) cc) _ _ n tn _ rfl (hmS.keeps k03) lookN hnl fun out tk' tks => ?_)
  refine Calls.spliced_nil ⟨hu, ?_⟩
  refine call_vw (X₂.keeps k3 _ _ hC) (k3 _ _ hx2) hu (one_size _) fun h5 t1 k5 hx5 => ?_
  have nL : hp.objs.size ≠ e := Nat.ne_of_gt (Heap.lt_size hx)
  have k15 : ∀ b o, b ≠ e → h₁.get? b = some o → h5.get? b = some o := fun b o hb z => k5 b o hb (k03 b o z)
  have X₅ : K.In h5 := fun b o z => k15 b o (fun q => by
    rw [q, hnx] at z
    cases z) (X₁ b o z)
  have hm5 : h5.Ns (ksEnv qual iS hp.objs.size fI (.ref cda) cc).locals (fun y => ([("self", .ref e), ("name", .str n tn)] : List (Str × Value)).reverse.lookup y) := by
    obtain ⟨oL, es, ep, hoL, r⟩ := hmS
    exact ⟨oL, es, ep, k15 _ oL nL hoL, r⟩
  show wpAt _ _ _ (execs [.Assign [.Attribute (.Name "self" q1) "name" q2] (.Name "name" q3) q4] _) _ _ _
  refine wpAt_of_wpAny (wpAny_execs_cons (plainObj_wpAny_Assign_Attribute ?_))
  refine ESX.ldL (env := ksEnv qual iS hp.objs.size fI (.ref cda) cc) (v := .str n tn) hm5 lookN (ESX.ldL (env := ksEnv qual iS hp.objs.size fI (.ref cda) cc) (v := .ref e) hm5 lookS ?_)
  refine set_plain X₅ (ox := excO C t1) (od := none) ⟨hx5, rfl, rfl, trivial⟩ T.sa ?_
  refine exc_osa X₅ hx5 hcl (show refsVE (.ref C :: bm) = true from hbm) rfl T.noN (fun h₃ tk₃ dx k₃ dn dne hx₃ hn₃ => ?_)
  show wpAny _ _ (execs _ _) _ _ _
  have z5 : hp.objs.size < h5.objs.size := hm5.lt
  exact wpAny_execs_nil (hq h₃ tk₃ dx t1 ⟨fun b o hb z => k₃ b o hb (k15 b o hb (k₁ b o z)), hx₃, Nat.le_of_lt (Nat.lt_of_lt_of_le z5 dn), dne, hn₃⟩)
theorem err_made (T : ErrTxt P K mg x qual C fI) {n : Str} {tn : Tok} (X : K.In s.heap) (hlim : s.heap.NoLimit) (hG : s.heap.Ns mainGlobals mg) (hB : s.heap.Ns builtinsNs mb) (hbb : mb "super" = some (.type "super")) (hroom : A.depth + 1 < recursionLimit) (hnl : n.length ≤ 100)
    (hq : ∀ h' tk e d, OwnMade s.heap h' e C d (.str n tn) → R (.ok (.ret (.ref e))) { s with heap := h', toks := tk }) :
    codeAny (model P w) A (.call (.ref C) ⟨[.str n tn], []⟩) R s := by
  obtain ⟨nm, q, N, bs, bm, sn, sub, ab, col, dd, k0, k1, k2, k3, k5, hC, hbm, hal⟩ := T.cls
  obtain ⟨hp, g, dr, tk, os⟩ := s
  have k : ∀ b o, hp.get? b = some o → ((hp.push (kdv_tup [.str n tn])).push (excO C hp.objs.size)).get? b = some o := fun b o e => Heap.get?_push_of_some _ (Heap.get?_push_of_some _ e)
  have hget : ((hp.push (kdv_tup [.str n tn])).push (excO C hp.objs.size)).get? (hp.objs.size + 1) = some (excO C hp.objs.size) := by heap_get
  have hnx : K.lookup (hp.objs.size + 1) = none := by
    cases e : K.lookup (hp.objs.size + 1) with
    | none => rfl
    | some o =>
      have z : hp.get? (hp.objs.size + 1) = some o := X _ _ e
      exact absurd (Nat.lt_of_succ_lt (Heap.lt_size z)) (Nat.lt_irrefl _)
  refine call_own F.excBase_ValueError (fun X => refsVE_contains X bm hbm) (X _ _ hC) (looks_findIn X T.iC) (fun self => bind_fn X self T.tC) (one_size _) ?_
  refine err_init (s := ⟨(hp.push (kdv_tup [.str n tn])).push (excO C hp.objs.size), g, dr, tk, os⟩) T (X.keeps k) (hlim.keeps k) (hG.keeps k) (hB.keeps k) hbb hget hnx ?_ hnl fun h' tk' dx t1 M => ?_
  · show A.depth + 1 < recursionLimit
    exact hroom
  · obtain ⟨k', hx, dn, dne, hns⟩ := M
    have old : ∀ b o, hp.get? b = some o → h'.get? b = some o := fun b o e => k' b o (Nat.ne_of_lt (Nat.lt_succ_of_lt (Heap.lt_size e))) (k b o e)
    have z : hp.objs.size + 1 + 1 ≤ dx := by
      first
        | (simpa only [Heap.size_push] using dn)
        | exact dn
        | (have q := dn; rw [Heap.size_push, Heap.size_push] at q; exact q)
    exact ⟨rfl, hq h' tk' (hp.objs.size + 1) dx ⟨old, Nat.le_succ _, ⟨_, _, hx, rfl, rfl, rfl, rfl⟩, Nat.le_trans (Nat.le_trans (Nat.le_succ _) (Nat.le_succ _)) z, dne, hns⟩⟩
end
end ErrX
end PySem

namespace L2
open PySem PySem.Spec PyProof.Rows
theorem relO_nm {v : V} {v' : Value} (r : RelV v v') (f : Str) : RelO (List.lookup f [(("name" : Str), v)]) (if f = "name" then some v' else none) := by
  by_cases hw : f = "name"
  · subst hw
    rw [if_pos rfl]
    have q : List.lookup ("name" : Str) [(("name" : Str), v)] = some v := by simp [List.lookup]
    rw [q]
    exact r
  · rw [if_neg hw]
    have qw : (f == ("name" : Str)) = false := by simpa using hw
    have q2 : List.lookup f [(("name" : Str), v)] = none := by simp [List.lookup, qw]
    rw [q2]
    trivial
section
variable {X : Cx} {C fI : Addr} {x qual : Str}
/-- the class at C made of a name -/
def tMkErr (C : Addr) (ta : TA) : St → Hp → XK → Prop := fun σ H Q => ta σ H fun vs H1 => ∃ n : Str, vs = [.str n] ∧ n.length ≤ 100 ∧ ∀ d, H1 d = none → Q (.ref C) (some d) (upd H1 d (.xd [(("name" : Str), .str n)]))
theorem pmk_err {a : Expr} {ta : TA} {p pos : Pos} {k : Nat} (T : PySem.ErrX.ErrTxt X.prog X.K X.mg x qual C fI) (hr : Room k X.A) (ha : PA X [a] ta) (hg : Gl X x) (hdb : (x == ("__debug__" : Str)) = false)
    (he : starEach (a :: []) X.env = (false, eval a X.env) :: starEach [] X.env := by rfl) (hpl : (backTo pos (starEach [] X.env)).any (·.1) = false := by rfl) :
    PMk X (.Call (.Name x p) [a] [] pos) (tMkErr C ta) := by
  intro pins s σ H Q I h
  refine wpAny_Call_Name_kw (ld_glob I hg T.gC ?_ hdb)
  refine PySem.W.callWith_K (h₀ := X.base) I.ok.mod.kin T.kC (thn (ha.run pos pins s σ H _ I h) fun us s1 hh => ?_) he hpl
  obtain ⟨vs, H1, I1, r1, n, ev, hnl, q1⟩ := hh
  subst ev
  refine ⟨I1.kIn, ?_⟩
  cases r1 with
  | cons rv rn =>
    rename_i v' us'
    cases rn
    obtain ⟨tn, rfl⟩ := id rv
    show wpAny _ _ (call (.ref C) [.str n tn]) _ _ _
    have hlim := I1.nolimit
    obtain ⟨mb, hmb1, hmb2⟩ := I1.mod.blt
    have hbb : mb "super" = some (.type "super") := (hmb2 _ (by decide)).trans (by decide +kernel)
    have hGl := I1.mod.glob.keeps I1.bk
    have hBl := hmb1.keeps I1.bk
    obtain ⟨hp, g, dr, tk, os⟩ := s1
    refine wpAny_call (PySem.ErrX.err_made T I1.kIn hlim hGl hBl hbb (by have := hr.dp; omega) hnl fun h' tk' e d M => ?_)
    show MkP X pins σ Q (.ref e) ⟨h', g, dr, tk', os⟩
    obtain ⟨oe, fv, hoe, hc, hd, hdat, h1⟩ := M.obj
    have hns := M.ns
    obtain ⟨G', g1, g2⟩ := restrict h' fun b => decide (b ≠ e)
    have gk : ∀ b, b ≠ e → G'.get? b = h'.get? b := fun b hb => g1 b (decide_eq_true hb)
    have ge : G'.get? e = none := g2 e (by simp)
    have old : ∀ b o, hp.get? b = some o → G'.get? b = some o := fun b o q => (gk b (Nat.ne_of_lt (Nat.lt_of_lt_of_le (Heap.lt_size q) M.new))).trans (M.keep b o q)
    have ob : ObjOk X.prog X.w (upd H1 d (.xd [(("name" : Str), .str n)])) G' d (.xd [(("name" : Str), .str n)]) :=
      ⟨_, hns.at (fun o q => (gk d M.dne).trans q), fun f => relO_nm (v := .str n) (v' := .str n tn) ⟨tn, rfl⟩ f⟩
    have J : Inv X pins σ (upd H1 d (.xd [(("name" : Str), .str n)])) ⟨G', g, dr, tk', os⟩ := I1.laid (t' := tk') old M.dbig ob
    refine ⟨e, oe, fv, ⟨G', g, dr, tk', os⟩, _, .ref C, some d, rfl, J, fun b o q => ?_, ge, hoe, ⟨hc, hd⟩, hdat, h1, ?_, rfl, I1.bare, raises_own T.exC T.tyC, q1 d (I1.hok.fresh M.dbig)⟩
    · by_cases hb : b = e
      · have q' : G'.get? b = some o := q
        rw [hb, ge] at q'; cases q'
      · exact (gk b hb).symm.trans q
    · rw [upd_ne (Ne.symm M.dne)]
      exact I1.hok.fresh M.new
/-- raise X(e) -/
def tRaiseErr (C : Addr) (W : WX) (ta : TA) : TS := fun _ σ H => tMkErr C ta σ H fun cls d H' => W cls d σ H'
theorem ps_raiseErr {a : Expr} {ta : TA} {W : WX} {p pos pos2 : Pos} {k : Nat} (hc : X.calm = true) (T : PySem.ErrX.ErrTxt X.prog X.K X.mg x qual C fI) (hr : Room k X.A) (tk : Takes X W) (ha : PA X [a] ta) (hg : Gl X x) (hdb : (x == ("__debug__" : Str)) = false)
    (he : starEach (a :: []) X.env = (false, eval a X.env) :: starEach [] X.env := by rfl) (hpl : (backTo pos (starEach [] X.env)).any (·.1) = false := by rfl) :
    PS X (.Raise (some (.Call (.Name x p) [a] [] pos)) none pos2) (tRaiseErr C W ta) := ps_raise hc tk (pmk_err T hr ha hg hdb he hpl)
end
end L2

set_option Elab.async false
set_option linter.all false
set_option maxRecDepth 100000
set_option maxHeartbeats 2000000
/-! M1: messages, rules, languages as plain data; how they stand in the heap; what they show. -/
namespace MW
open PySem PySem.Spec PyProof.Rows L2
open GA (Tk)
/-- all but the tables stays -/
def Mn (H H' : Hp) : Prop := ∀ b o, H b = some o → (∀ ps, o ≠ .tbl ps) → H' b = some o
theorem Mn.refl (H : Hp) : Mn H H := fun _ _ h _ => h
theorem Mn.trans {H H1 H2 : Hp} (a : Mn H H1) (b : Mn H1 H2) : Mn H H2 := fun c o h n => b c o (a c o h n) n
theorem Mn.tk {H H' : Hp} (t : Tk H H') : Mn H H' := t.ext
theorem Mn.same {H H' : Hp} (t : Same H H') : Mn H H' := fun b o h _ => t b o h
theorem Mn.lst {H H' : Hp} (t : Mn H H') {a : Addr} {xs : List V} (h : H a = some (.lst xs)) : H' a = some (.lst xs) := t a _ h fun _ z => nomatch z
theorem Mn.tup {H H' : Hp} (t : Mn H H') {a : Addr} {xs : List V} (h : H a = some (.tup xs)) : H' a = some (.tup xs) := t a _ h fun _ z => nomatch z
theorem Mn.ins {H H' : Hp} (t : Mn H H') {a C d : Addr} {fs : List (Str × V)} (h : H a = some (.ins C d fs)) : H' a = some (.ins C d fs) := t a _ h fun _ z => nomatch z
theorem Mn.dK {H H' : Hp} (t : Mn H H') {a : Addr} {kvs : List (Key × V)} (h : H a = some (.dK kvs)) : H' a = some (.dK kvs) := t a _ h fun _ z => nomatch z

/-! ### lists of things -/
/-- at v stands a list of things that are xs -/
def IsL {α : Type} (R : V → α → Prop) (H : Hp) (v : V) (xs : List α) : Prop := ∃ (l : Addr) (vs : List V), v = .ref l ∧ H l = some (.lst vs) ∧ Paired R vs xs
theorem Paired.mapR {α β : Type} {F G : α → β → Prop} {l₁ : List α} {l₂ : List β} (p : Paired F l₁ l₂) (f : ∀ a b, F a b → G a b) : Paired G l₁ l₂ := Paired.mapP p f
theorem Paired.get {α β : Type} {F : α → β → Prop} : ∀ {l₁ : List α} {l₂ : List β} {i : Nat} {a : α}, Paired F l₁ l₂ → l₁[i]? = some a → ∃ b, l₂[i]? = some b ∧ F a b
  | _, _, _, _, .nil, e => by simp at e
  | _, _, 0, _, .cons r _, e => by simp at e; subst e; exact ⟨_, rfl, r⟩
  | _, _, i + 1, a, .cons _ t, e => by
    obtain ⟨u, h1, h2⟩ := Paired.get (i := i) (a := a) t (by simpa using e)
    exact ⟨u, by simpa using h1, h2⟩
theorem Paired.len {α β : Type} {F : α → β → Prop} {l₁ : List α} {l₂ : List β} (p : Paired F l₁ l₂) : l₁.length = l₂.length := Paired.length p
theorem Paired.add {α β : Type} {F : α → β → Prop} : ∀ {l₁ : List α} {l₂ : List β} {a : α} {b : β}, Paired F l₁ l₂ → F a b → Paired F (l₁ ++ [a]) (l₂ ++ [b])
  | _, _, _, _, .nil, h => .cons h .nil
  | _, _, _, _, .cons r t, h => .cons r (Paired.add t h)
theorem IsL.mn {α : Type} {R R' : V → α → Prop} {H H' : Hp} {v : V} {xs : List α} (t : Mn H H') (r : ∀ v x, R v x → R' v x) : IsL R H v xs → IsL R' H' v xs
  | ⟨l, vs, e, h, p⟩ => ⟨l, vs, e, t.lst h, Paired.mapP p r⟩

/-! ### the rules -/
abbrev Rel := Int × Bool × List (Int × Int)
abbrev Cond := List (List Rel)
abbrev Rules := List (Str × Cond)
def IsRng (H : Hp) (v : V) (r : Int × Int) : Prop := ∃ p : Addr, v = .ref p ∧ H p = some (.tup [.int r.1, .int r.2])
def IsRel (H : Hp) (v : V) (r : Rel) : Prop := ∃ (p : Addr) (w : V), v = .ref p ∧ H p = some (.tup [.int r.1, .bl r.2.1, w]) ∧ IsL (IsRng H) H w r.2.2
def IsRow (H : Hp) : V → List Rel → Prop := IsL (IsRel H) H
def IsCond (H : Hp) : V → Cond → Prop := IsL (IsRow H) H
def IsRule (H : Hp) (v : V) (r : Str × Cond) : Prop := ∃ (p : Addr) (w : V), v = .ref p ∧ H p = some (.tup [.str r.1, w]) ∧ IsCond H w r.2
def IsRules (H : Hp) : V → Rules → Prop := IsL (IsRule H) H
def IsLang (C : Addr) (H : Hp) (v : V) (r : Rules) : Prop := ∃ (p dx : Addr) (w : V), v = .ref p ∧ H p = some (.ins C dx [("rules", w)]) ∧ IsRules H w r
section
variable {H H' : Hp}
theorem IsRng.mn (t : Mn H H') {v : V} {r : Int × Int} : IsRng H v r → IsRng H' v r
  | ⟨p, e, h⟩ => ⟨p, e, t.tup h⟩
theorem IsRel.mn (t : Mn H H') {v : V} {r : Rel} : IsRel H v r → IsRel H' v r
  | ⟨p, w, e, h, k⟩ => ⟨p, w, e, t.tup h, k.mn t fun _ _ => IsRng.mn t⟩
theorem IsRow.mn (t : Mn H H') {v : V} {r : List Rel} : IsRow H v r → IsRow H' v r := fun k => IsL.mn t (fun _ _ => IsRel.mn t) k
theorem IsCond.mn (t : Mn H H') {v : V} {r : Cond} : IsCond H v r → IsCond H' v r := fun k => IsL.mn t (fun _ _ => IsRow.mn t) k
theorem IsRule.mn (t : Mn H H') {v : V} {r : Str × Cond} : IsRule H v r → IsRule H' v r
  | ⟨p, w, e, h, k⟩ => ⟨p, w, e, t.tup h, k.mn t⟩
theorem IsRules.mn (t : Mn H H') {v : V} {r : Rules} : IsRules H v r → IsRules H' v r := fun k => IsL.mn t (fun _ _ => IsRule.mn t) k
theorem IsLang.mn (t : Mn H H') {C : Addr} {v : V} {r : Rules} : IsLang C H v r → IsLang C H' v r
  | ⟨p, dx, w, e, h, k⟩ => ⟨p, dx, w, e, t.ins h, k.mn t⟩
end
def inRng (v : Int) (r : Int × Int) : Bool := decide (r.1 ≤ v) && decide (v ≤ r.2)
def modV (r : Rel) (n : Int) : Int := if r.1 > 0 then n.fmod r.1 else n
def relH (n : Int) (r : Rel) : Bool := (r.2.2.any (inRng (modV r n))) == r.2.1
def rowH (n : Int) (row : List Rel) : Bool := row.all (relH n)
def condH (n : Int) (c : Cond) : Bool := c.any (rowH n)
def firstR (n : Int) : Rules → Str
  | [] => "other"
  | r :: rs => if condH n r.2 = true then r.1 else firstR n rs
def catOf (rs : Rules) (n : Int) : Str := if n ≥ 0 then firstR n rs else "other"

/-! ### messages -/
inductive Nd (M : Type) where
  | txt (s : Str)
  | shw (n : Str)
  | num
  | sel (n : Str) (cs : List (Key × M)) (o : M)
  | plu (n : Str) (off : Int) (cs : List (Key × M)) (o : M)
def Msg : Nat → Type
  | 0 => Empty
  | d + 1 => List (Nd (Msg d))
abbrev Msg.nds {d : Nat} (m : Msg (d + 1)) : List (Nd (Msg d)) := m
/-- the cases at c -/
def IsCs {M : Type} (R : V → M → Prop) (H : Hp) (c : Addr) (kvs : List (Key × V)) (cs : List (Key × M)) : Prop := ∃ ps : List Addr, H c = some (.lst (ps.map V.ref)) ∧ Paired (fun p kv => H p = some (.tup [kV kv.1, kv.2])) ps kvs ∧ Paired (fun kv km => kv.1 = km.1 ∧ R kv.2 km.2) kvs cs
def IsNd {M : Type} (R : V → M → Prop) (H : Hp) (v : V) : Nd M → Prop
  | .txt s => ∃ p : Addr, v = .ref p ∧ H p = some (.tup [.str "text", .str s])
  | .shw n => ∃ p : Addr, v = .ref p ∧ H p = some (.tup [.str "show", .str n])
  | .num => ∃ p : Addr, v = .ref p ∧ H p = some (.tup [.str "number"])
  | .sel n cs o => ∃ (p c : Addr) (kvs : List (Key × V)) (w : V), v = .ref p ∧ H p = some (.tup [.str "select", .str n, .ref c, w]) ∧ IsCs R H c kvs cs ∧ R w o
  | .plu n off cs o => ∃ (p c : Addr) (kvs : List (Key × V)) (w : V), v = .ref p ∧ H p = some (.tup [.str "plural", .str n, .int off, .ref c, w]) ∧ IsCs R H c kvs cs ∧ R w o
def IsM : (d : Nat) → Hp → V → Msg d → Prop
  | 0, _, _, _ => False
  | d + 1, H, v, m => IsL (IsNd (IsM d H) H) H v m
theorem IsCs.mn {M : Type} {R R' : V → M → Prop} {H H' : Hp} {c : Addr} {kvs : List (Key × V)} {cs : List (Key × M)} (t : Mn H H') (r : ∀ v x, R v x → R' v x) : IsCs R H c kvs cs → IsCs R' H' c kvs cs
  | ⟨ps, h, p, q⟩ => ⟨ps, t.lst h, Paired.mapP p fun _ _ z => t.tup z, Paired.mapP q fun _ _ z => ⟨z.1, r _ _ z.2⟩⟩
theorem IsNd.mn {M : Type} {R R' : V → M → Prop} {H H' : Hp} {v : V} (t : Mn H H') (r : ∀ v x, R v x → R' v x) : ∀ {nd : Nd M}, IsNd R H v nd → IsNd R' H' v nd
  | .txt s, ⟨p, e, h⟩ => ⟨p, e, t.tup h⟩
  | .shw n, ⟨p, e, h⟩ => ⟨p, e, t.tup h⟩
  | .num, ⟨p, e, h⟩ => ⟨p, e, t.tup h⟩
  | .sel n cs o, ⟨p, c, kvs, w, e, h, k, q⟩ => ⟨p, c, kvs, w, e, t.tup h, k.mn t r, r _ _ q⟩
  | .plu n off cs o, ⟨p, c, kvs, w, e, h, k, q⟩ => ⟨p, c, kvs, w, e, t.tup h, k.mn t r, r _ _ q⟩
theorem IsM.mn {H H' : Hp} (t : Mn H H') : ∀ {d : Nat} {v : V} {m : Msg d}, IsM d H v m → IsM d H' v m
  | 0, _, _, h => h
  | d + 1, _, _, h => IsL.mn t (fun _ _ => IsNd.mn t fun _ _ => IsM.mn t) h
abbrev SOk (s : Str) : Prop := s.length ≤ 10 ∧ PyData.strOk s = true
def KOk : Key → Prop
  | .inl _ => True
  | .inr s => PyData.strOk s = true
/-- a message that may stand there: b, within a plural -/
def WfN {M : Type} (W : Bool → M → Prop) (b : Bool) : Nd M → Prop
  | .txt s => SOk s
  | .shw n => SOk n
  | .num => b = true
  | .sel n cs o => SOk n ∧ cs.length ≤ 10 ∧ (cs.map (·.1)).Nodup ∧ (∀ kv ∈ cs, KOk kv.1) ∧ (∀ kv ∈ cs, W b kv.2) ∧ W b o
  | .plu n off cs o => SOk n ∧ 0 ≤ off ∧ off ≤ 9 ∧ cs.length ≤ 10 ∧ (cs.map (·.1)).Nodup ∧ (∀ kv ∈ cs, KOk kv.1) ∧ (∀ kv ∈ cs, W true kv.2) ∧ W true o
def Wf : (d : Nat) → Bool → Msg d → Prop
  | 0, _, _ => True
  | d + 1, b, m => (Msg.nds m).length ≤ 3 ∧ ∀ nd ∈ (Msg.nds m), WfN (Wf d) b nd

/-! ### what is shown -/
inductive Res where
  | ok (s : Str)
  /-- false: missing; true: wrong -/
  | er (b : Bool) (n : Str)
def lk {M : Type} : List (Key × M) → Key → Option M
  | [], _ => none
  | kv :: r, k => if kv.1 = k then some kv.2 else lk r k
theorem lk_valV : ∀ (kvs : List (Key × V)) (k : Key), valV kvs k = lk kvs k
  | [], _ => rfl
  | kv :: r, k => by
    unfold lk
    by_cases e : kv.1 = k
    · rw [if_pos e, valV_pos e]
    · rw [if_neg e, valV_neg e, lk_valV r k]
def pick {M : Type} (cs : List (Key × M)) (o : M) (i : Int) (c : Str) : M := ((lk cs (.inl i)).or (lk cs (.inr c))).getD o
def strV : V → Str
  | .int i => toString i
  | .str s => s
  | _ => Str.empty
def showL {M : Type} (f : Nd M → Res) : Str → List (Nd M) → Res
  | acc, [] => .ok acc
  | acc, nd :: r => match f nd with
    | .ok s => showL f (acc ++ s) r
    | .er b n => .er b n
def showN {M : Type} (sm : M → Option Int → Res) (rs : Rules) (args : List (Key × V)) (left : Option Int) : Nd M → Res
  | .txt s => .ok s
  | .shw n => match valV args (.inr n) with
    | none => .er false n
    | some v => .ok (strV v)
  | .num => match left with
    | some i => .ok (toString i)
    | none => .ok Str.empty
  | .sel n cs o => match valV args (.inr n) with
    | none => .er false n
    | some (.str w) => sm ((lk cs (.inr w)).getD o) left
    | some _ => .er true n
  | .plu n off cs o => match valV args (.inr n) with
    | none => .er false n
    | some (.int i) => sm (pick cs o i (catOf rs (i - off))) (some (i - off))
    | some _ => .er true n
def showM (rs : Rules) (args : List (Key × V)) : (d : Nat) → Msg d → Option Int → Res
  | 0, m, _ => nomatch m
  | d + 1, m, left => showL (showN (showM rs args d) rs args left) Str.empty m

/-! ### arguments -/
def AV (v : V) : Prop := (∃ i : Int, v = .int i ∧ i.natAbs < 10 ^ 14) ∨ ∃ s : Str, v = .str s ∧ s.length ≤ 10
def AOk (args : List (Key × V)) : Prop := ∀ k v, valV args k = some v → AV v
def LOk (left : Option Int) : Prop := ∀ i, left = some i → i.natAbs < 10 ^ 15
theorem log_small {i : Int} (h : i.natAbs < 10 ^ 15) : i.natAbs.log2 < 1920 := by
  by_cases e : i.natAbs = 0
  · rw [e]; decide
  · refine (Nat.log2_lt e).mpr (Nat.lt_of_lt_of_le h ?_)
    calc (10:Nat) ^ 15 ≤ 2 ^ 50 := by decide
      _ ≤ 2 ^ 1920 := Nat.pow_le_pow_right (by decide) (by decide)
theorem int_len {i : Int} (h : i.natAbs < 10 ^ 15) : (toString i : Str).length ≤ 40 := by
  have e : (Str.ofString (toString i)).length = (toString i : String).length := PySem.ofString_length _
  show (Str.ofString (toString i)).length ≤ 40
  rw [e]
  exact Nat.le_trans (int_text_length_le10 (k := 15) (by decide) h) (by decide)
theorem strV_len {v : V} (h : AV v) : (strV v).length ≤ 40 := by
  rcases h with ⟨i, rfl, hi⟩ | ⟨s, rfl, hs⟩
  · exact int_len (Nat.lt_of_lt_of_le hi (by decide))
  · exact Nat.le_trans hs (by decide)
end MW

set_option Elab.async false
set_option linter.all false
set_option maxRecDepth 100000
set_option maxHeartbeats 2000000
/-! M2: joined texts, lengths, look-ups, merged dicts, deep data. -/
namespace MW
open PySem PySem.Spec PyProof.Rows L2
/-! ### joined texts -/
def catS (ss : List Str) : Str := ss.foldl (· ++ ·) Str.empty
theorem catS_snoc (ss : List Str) (s : Str) : catS (ss ++ [s]) = catS ss ++ s := by
  unfold catS
  rw [List.foldl_append]
  rfl
theorem tl_fold : ∀ (ss : List Str) (a : Str), TL.tl (ss.foldl (· ++ ·) a) = TL.tl a ++ (ss.map TL.tl).flatten
  | [], a => by simp
  | s :: r, a => by
    rw [List.foldl_cons, tl_fold r (a ++ s), TL.tl_append, List.map_cons, List.flatten_cons, List.append_assoc]
theorem joinL_nil : ∀ ls : List (List Nat), TL.joinL [] ls = ls.flatten
  | [] => rfl
  | [p] => by simp [TL.joinL]
  | p :: q :: r => by
    show p ++ ([] ++ TL.joinL [] (q :: r)) = _
    rw [List.nil_append, joinL_nil (q :: r)]
    simp
theorem join_cat (ss : List Str) : Txt.join Str.empty ss = catS ss := by
  refine TL.ext_tl ?_
  rw [TL.join_eq, TL.tl_join]
  unfold catS
  rw [tl_fold]
  have e : TL.tl Str.empty = [] := rfl
  rw [e, joinL_nil, List.nil_append]
theorem empty_append (s : Str) : Str.empty ++ s = s := by
  refine TL.ext_tl ?_
  rw [TL.tl_append]
  have e : TL.tl Str.empty = [] := rfl
  rw [e, List.nil_append]
theorem len_app (a b : Str) : (a ++ b).length = a.length + b.length := Str.length_append a b
theorem sum_len {n : Nat} : ∀ {ss : List Str}, (∀ s ∈ ss, s.length ≤ n) → (ss.map (·.length)).sum ≤ ss.length * n
  | [], _ => by simp
  | s :: r, h => by
    have h1 := h s (by simp)
    have h2 := sum_len (ss := r) fun t ht => h t (by simp [ht])
    rw [List.map_cons, List.sum_cons, List.length_cons, Nat.succ_mul]
    omega
theorem showL_all {M : Type} {f : Nd M → Res} : ∀ {nds : List (Nd M)} {acc s : Str} {n : Nat}, (∀ nd ∈ nds, ∀ t, f nd = .ok t → t.length ≤ n) → showL f acc nds = .ok s → s.length ≤ acc.length + nds.length * n
  | [], acc, s, n, _, h => by
    injection h with e
    rw [e]; simp
  | nd :: r, acc, s, n, hn, h => by
    unfold showL at h
    cases e : f nd with
    | ok t =>
      rw [e] at h
      have h1 := hn nd (by simp) t e
      have h2 := showL_all (nds := r) (acc := acc ++ t) (n := n) (fun x hx => hn x (by simp [hx])) h
      rw [len_app] at h2
      rw [List.length_cons, Nat.succ_mul]
      omega
    | er b m => rw [e] at h; cases h
def bnd (d : Nat) : Nat := 40 * 3 ^ d
theorem bnd_pos (d : Nat) : 40 ≤ bnd d := by
  unfold bnd
  have := Nat.one_le_pow d 3 (by decide)
  omega
theorem lk_mem {M : Type} {cs : List (Key × M)} {k : Key} {m : M} (h : lk cs k = some m) : ∃ kv ∈ cs, kv.1 = k ∧ kv.2 = m := by
  induction cs with
  | nil => cases h
  | cons c r ih =>
    unfold lk at h
    by_cases e : c.1 = k
    · rw [if_pos e] at h
      exact ⟨c, by simp, e, Option.some.inj h⟩
    · rw [if_neg e] at h
      obtain ⟨kv, h1, h2⟩ := ih h
      exact ⟨kv, by simp [h1], h2⟩
theorem lk_all {M : Type} {W : M → Prop} {cs : List (Key × M)} {o : M} {k : Key} (h : ∀ kv ∈ cs, W kv.2) (ho : W o) : W ((lk cs k).getD o) := by
  cases e : lk cs k with
  | none => exact ho
  | some m =>
    obtain ⟨kv, h1, _, h3⟩ := lk_mem e
    rw [Option.getD_some, ← h3]
    exact h kv h1
theorem pick_all {M : Type} {W : M → Prop} {cs : List (Key × M)} {o : M} {i : Int} {c : Str} (h : ∀ kv ∈ cs, W kv.2) (ho : W o) : W (pick cs o i c) := by
  unfold pick
  cases e : lk cs (.inl i) with
  | none => rw [Option.none_or]; exact lk_all h ho
  | some m =>
    obtain ⟨kv, h1, _, h3⟩ := lk_mem e
    rw [Option.some_or, Option.getD_some, ← h3]
    exact h kv h1
theorem off_small {i off : Int} (h : i.natAbs < 10 ^ 14) (h0 : 0 ≤ off) (h9 : off ≤ 9) : LOk (some (i - off)) := by
  intro j e
  cases e
  have : (10:Nat) ^ 14 + 9 ≤ 10 ^ 15 := by decide
  omega
theorem sizes (a : Nat) (h : a ≤ 100000) : a ≤ sizeLine := by
  rw [sizeLine_eq]; omega
section
variable {M : Type} {sm : M → Option Int → Res} {rs : Rules} {args : List (Key × V)} {left : Option Int} {x : Str} {cs : List (Key × M)} {o : M} {off : Int}
theorem shw_no (e : valV args (.inr x) = none) : showN sm rs args left (.shw x) = .er false x := by simp only [showN, e]
theorem shw_at {v : V} (e : valV args (.inr x) = some v) : showN sm rs args left (.shw x) = .ok (strV v) := by simp only [showN, e]
theorem num_at {i : Int} : showN sm rs args (some i) (.num : Nd M) = .ok (toString i) := rfl
theorem sel_no (e : valV args (.inr x) = none) : showN sm rs args left (.sel x cs o) = .er false x := by simp only [showN, e]
theorem sel_int {i : Int} (e : valV args (.inr x) = some (.int i)) : showN sm rs args left (.sel x cs o) = .er true x := by simp only [showN, e]
theorem sel_at {w : Str} (e : valV args (.inr x) = some (.str w)) : showN sm rs args left (.sel x cs o) = sm ((lk cs (.inr w)).getD o) left := by simp only [showN, e]
theorem plu_no (e : valV args (.inr x) = none) : showN sm rs args left (.plu x off cs o) = .er false x := by simp only [showN, e]
theorem plu_str {w : Str} (e : valV args (.inr x) = some (.str w)) : showN sm rs args left (.plu x off cs o) = .er true x := by simp only [showN, e]
theorem plu_at {i : Int} (e : valV args (.inr x) = some (.int i)) : showN sm rs args left (.plu x off cs o) = sm (pick cs o i (catOf rs (i - off))) (some (i - off)) := by simp only [showN, e]
theorem showL_ok {f : Nd M → Res} {nd : Nd M} {r : List (Nd M)} {acc s : Str} (e : f nd = .ok s) : showL f acc (nd :: r) = showL f (acc ++ s) r := by simp only [showL, e]
theorem showL_er {f : Nd M → Res} {nd : Nd M} {r : List (Nd M)} {acc n : Str} {b : Bool} (e : f nd = .er b n) : showL f acc (nd :: r) = .er b n := by simp only [showL, e]
end
section
variable {rs : Rules} {args : List (Key × V)} (ha : AOk args)
include ha
theorem showN_len {M : Type} {W : Bool → M → Prop} {sm : M → Option Int → Res} {b : Bool} {n : Nat} {left : Option Int} {nd : Nd M} (hn : 40 ≤ n) (hl : LOk left) (hs : ∀ b m left t, W b m → LOk left → sm m left = .ok t → t.length ≤ n)
    (w : WfN W b nd) {t : Str} (h : showN sm rs args left nd = .ok t) : t.length ≤ n := by
  cases nd with
  | txt s => cases h; exact Nat.le_trans w.1 (by omega)
  | shw x =>
    cases e : valV args (.inr x) with
    | none => rw [shw_no e] at h; cases h
    | some v =>
      rw [shw_at e] at h
      cases h
      exact Nat.le_trans (strV_len (ha _ _ e)) hn
  | num =>
    cases left with
    | none => cases h; exact Nat.zero_le _
    | some i => cases h; exact Nat.le_trans (int_len (hl i rfl)) hn
  | sel x cs o =>
    obtain ⟨_, _, _, _, w1, w2⟩ := w
    cases e : valV args (.inr x) with
    | none => rw [sel_no e] at h; cases h
    | some v =>
      rcases ha _ _ e with ⟨i, rfl, _⟩ | ⟨s, rfl, _⟩
      · rw [sel_int e] at h; cases h
      · rw [sel_at e] at h
        exact hs b _ _ _ (lk_all w1 w2) hl h
  | plu x off cs o =>
    obtain ⟨_, h0, h9, _, _, _, w1, w2⟩ := w
    cases e : valV args (.inr x) with
    | none => rw [plu_no e] at h; cases h
    | some v =>
      rcases ha _ _ e with ⟨i, rfl, hi⟩ | ⟨s, rfl, _⟩
      · rw [plu_at e] at h
        exact hs true _ _ _ (pick_all w1 w2) (off_small hi h0 h9) h
      · rw [plu_str e] at h; cases h
theorem showM_len : ∀ (d : Nat) (b : Bool) (m : Msg d) (left : Option Int) (t : Str), Wf d b m → LOk left → showM rs args d m left = .ok t → t.length ≤ bnd d
  | 0, _, m, _, _, _, _, _ => nomatch m
  | d + 1, b, m, left, t, w, hl, h => by
    have q := showL_all (n := bnd d) (fun nd hnd t ht => showN_len ha (bnd_pos d) hl (fun b m left t w1 l1 h1 => showM_len d b m left t w1 l1 h1) (w.2 nd hnd) ht) h
    have q1 := w.1
    have e : (Str.empty : Str).length = 0 := rfl
    rw [e] at q
    have : (Msg.nds m).length * bnd d ≤ 3 * bnd d := Nat.mul_le_mul_right _ q1
    have e2 : bnd (d + 1) = 3 * bnd d := by unfold bnd; rw [Nat.pow_succ]; omega
    rw [e2]
    exact Nat.le_trans q (by omega)
end
theorem bnd3 {d : Nat} (h : d ≤ 3) : bnd d ≤ 1080 := by
  have : (3:Nat) ^ d ≤ 3 ^ 3 := Nat.pow_le_pow_right (by decide) h
  unfold bnd
  omega
/-! ### look-ups along related lists -/
section
variable {M : Type} {R : V → M → Prop}
theorem lk_rel : ∀ {kvs : List (Key × V)} {cs : List (Key × M)} {k : Key}, Paired (fun kv km => kv.1 = km.1 ∧ R kv.2 km.2) kvs cs → (lk kvs k = none ∧ lk cs k = none) ∨ ∃ v m, lk kvs k = some v ∧ lk cs k = some m ∧ R v m
  | _, _, _, .nil => .inl ⟨rfl, rfl⟩
  | _, _, k, .cons (a := kv) (b := km) h t => by
    unfold lk
    by_cases e : kv.1 = k
    · rw [if_pos e, if_pos (h.1.symm.trans e)]
      exact .inr ⟨_, _, rfl, rfl, h.2⟩
    · rw [if_neg e, if_neg (fun z => e (h.1.trans z))]
      exact lk_rel t
theorem lkD_rel {kvs : List (Key × V)} {cs : List (Key × M)} {k : Key} {w : V} {o : M} (p : Paired (fun kv km => kv.1 = km.1 ∧ R kv.2 km.2) kvs cs) (ho : R w o) : R ((lk kvs k).getD w) ((lk cs k).getD o) := by
  rcases lk_rel (k := k) p with ⟨e1, e2⟩ | ⟨v, m, e1, e2, r⟩
  · rw [e1, e2]; exact ho
  · rw [e1, e2]; exact r
theorem pick_rel {kvs : List (Key × V)} {cs : List (Key × M)} {i : Int} {c : Str} {w : V} {o : M} (p : Paired (fun kv km => kv.1 = km.1 ∧ R kv.2 km.2) kvs cs) (ho : R w o) : R (pick kvs w i c) (pick cs o i c) := by
  unfold pick
  rcases lk_rel (k := .inl i) p with ⟨e1, e2⟩ | ⟨v, m, e1, e2, r⟩
  · rw [e1, e2, Option.none_or, Option.none_or]; exact lkD_rel p ho
  · rw [e1, e2, Option.some_or, Option.some_or]; exact r
end
theorem keys_rel {M : Type} {R : V → M → Prop} : ∀ {kvs : List (Key × V)} {cs : List (Key × M)}, Paired (fun kv km => kv.1 = km.1 ∧ R kv.2 km.2) kvs cs → kvs.map (·.1) = cs.map (·.1)
  | _, _, .nil => rfl
  | _, _, .cons h t => by rw [List.map_cons, List.map_cons, h.1, keys_rel t]
theorem putK_new {kvs : List (Key × V)} {k : Key} {v : V} (h : k ∉ kvs.map (·.1)) : putK kvs k v = kvs ++ [(k, v)] := by
  unfold putK
  have e : (kvs.any fun kv => decide (kv.1 = k)) = false := by
    rw [List.any_eq_false]
    intro kv hkv q
    exact h (List.mem_map.mpr ⟨kv, hkv, of_decide_eq_true q⟩)
  rw [e]
  rfl
theorem merge_new : ∀ {kvs acc : List (Key × V)}, (acc.map (·.1) ++ kvs.map (·.1)).Nodup → mergeK acc kvs = acc ++ kvs
  | [], acc, _ => by unfold mergeK; simp
  | kv :: r, acc, h => by
    show mergeK (putK acc kv.1 kv.2) r = _
    have hn : kv.1 ∉ acc.map (·.1) := fun z => by
      have q := List.nodup_append.mp h
      exact q.2.2 _ z _ (List.mem_cons_self ..) rfl
    rw [putK_new hn]
    have e : acc ++ [(kv.1, kv.2)] ++ r = acc ++ kv :: r := by simp
    rw [merge_new (kvs := r) (acc := acc ++ [(kv.1, kv.2)]) (by simpa using h), e]
theorem merge_nil {kvs : List (Key × V)} (h : (kvs.map (·.1)).Nodup) : mergeK [] kvs = kvs := by
  rw [merge_new (by simpa using h), List.nil_append]
/-! ### messages as deep data -/
section
variable {M : Type} (f : M → PyData)
def keyD : Key → PyData
  | .inl i => .int i
  | .inr s => .str s
def csD : List (Key × M) → List PyData
  | [] => []
  | km :: r => .tuple [keyD km.1, f km.2] :: csD r
def ndD : Nd M → PyData
  | .txt s => .tuple [.str "text", .str s]
  | .shw n => .tuple [.str "show", .str n]
  | .num => .tuple [.str "number"]
  | .sel n cs o => .tuple [.str "select", .str n, .list (csD f cs), f o]
  | .plu n off cs o => .tuple [.str "plural", .str n, .int off, .list (csD f cs), f o]
def ndsD : List (Nd M) → List PyData
  | [] => []
  | nd :: r => ndD f nd :: ndsD r
end
def msD : (d : Nat) → Msg d → PyData
  | 0, m => nomatch m
  | d + 1, m => .list (ndsD (msD d) m)
section
variable {K : PySem.W.Frag} {H : Hp} {M : Type} {R : V → M → Prop} {f : M → PyData}
theorem key_dp (k : Key) : Dp K H (kV k) (keyD k) := by
  cases k with
  | inl i => exact .int i
  | inr s => exact .str s
theorem cs_dp (hR : ∀ v m, R v m → Dp K H v (f m)) : ∀ {ps : List Addr} {kvs : List (Key × V)} {cs : List (Key × M)}, Paired (fun p kv => H p = some (.tup [kV kv.1, kv.2])) ps kvs → Paired (fun kv km => kv.1 = km.1 ∧ R kv.2 km.2) kvs cs →
    DpAll K H (ps.map V.ref) (csD f cs)
  | _, _, _, .nil, .nil => .nil
  | _, _, _, .cons (b := kv) h t, .cons (b := km) h2 t2 => by
    refine .cons (.tup (SqT.of h) (.cons ?_ (.cons (hR _ _ h2.2) .nil))) (cs_dp hR t t2)
    rw [h2.1]
    exact key_dp _
theorem nd_dp (hR : ∀ v m, R v m → Dp K H v (f m)) {v : V} : ∀ {nd : Nd M}, IsNd R H v nd → Dp K H v (ndD f nd)
  | .txt s, ⟨p, e, h⟩ => by subst e; exact .tup (SqT.of h) (.cons (.str _) (.cons (.str _) .nil))
  | .shw n, ⟨p, e, h⟩ => by subst e; exact .tup (SqT.of h) (.cons (.str _) (.cons (.str _) .nil))
  | .num, ⟨p, e, h⟩ => by subst e; exact .tup (SqT.of h) (.cons (.str _) .nil)
  | .sel n cs o, ⟨p, c, kvs, w, e, h, ⟨ps, hc, p1, p2⟩, q⟩ => by
    subst e
    exact .tup (SqT.of h) (.cons (.str _) (.cons (.str _) (.cons (.lst (SqL.of hc) (cs_dp hR p1 p2)) (.cons (hR _ _ q) .nil))))
  | .plu n off cs o, ⟨p, c, kvs, w, e, h, ⟨ps, hc, p1, p2⟩, q⟩ => by
    subst e
    exact .tup (SqT.of h) (.cons (.str _) (.cons (.str _) (.cons (.int _) (.cons (.lst (SqL.of hc) (cs_dp hR p1 p2)) (.cons (hR _ _ q) .nil)))))
theorem nds_dp (hR : ∀ v m, R v m → Dp K H v (f m)) : ∀ {vs : List V} {nds : List (Nd M)}, Paired (IsNd R H) vs nds → DpAll K H vs (ndsD f nds)
  | _, _, .nil => .nil
  | _, _, .cons h t => .cons (nd_dp hR h) (nds_dp hR t)
theorem ms_dp : ∀ {d : Nat} {v : V} {m : Msg d}, IsM d H v m → Dp K H v (msD d m)
  | 0, _, m, _ => nomatch m
  | d + 1, _, _, ⟨l, vs, e, h, p⟩ => by
    subst e
    exact .lst (SqL.of h) (nds_dp (fun _ _ q => ms_dp q) p)
end
/-! ### the data are shaped -/
section
variable {M : Type} {W : Bool → M → Prop} {f : M → PyData} {n : Nat}
theorem keyD_ok {k : Key} (h : KOk k) : (keyD k).canLay0 = true ∧ (keyD k).depth = 0 := by
  cases k with
  | inl i => exact ⟨by simp [keyD, PyData.canLay0], by simp [keyD, PyData.depth]⟩
  | inr s => exact ⟨by
      have h' : PyData.strOk s = true := h
      simpa [keyD, PyData.canLay0] using h', by simp [keyD, PyData.depth]⟩
theorem csD_ok (hf : ∀ m b, W b m → (f m).canLay0 = true ∧ (f m).depth ≤ n) {b : Bool} : ∀ {cs : List (Key × M)}, (∀ kv ∈ cs, KOk kv.1) → (∀ kv ∈ cs, W b kv.2) → PyData.canLayAll0 (csD f cs) = true ∧ PyData.depthAll (csD f cs) ≤ n + 1
  | [], _, _ => ⟨rfl, Nat.zero_le _⟩
  | km :: r, h1, h2 => by
    obtain ⟨a1, a2⟩ := keyD_ok (h1 km (by simp))
    obtain ⟨b1, b2⟩ := hf km.2 b (h2 km (by simp))
    obtain ⟨c1, c2⟩ := csD_ok hf (cs := r) (fun kv hk => h1 kv (by simp [hk])) (fun kv hk => h2 kv (by simp [hk]))
    refine ⟨?_, ?_⟩
    · simp [csD, PyData.canLayAll0, PyData.canLay0, a1, b1, c1]
    · simp only [csD, PyData.depthAll, PyData.depth, a2]
      omega
theorem s_ok {s : Str} (h : SOk s) : (PyData.str s).canLay0 = true := by simpa [PyData.canLay0] using h.2
theorem k1 : (PyData.str "text").canLay0 = true := by decide +kernel
theorem k2 : (PyData.str "show").canLay0 = true := by decide +kernel
theorem k3 : (PyData.str "number").canLay0 = true := by decide +kernel
theorem k4 : (PyData.str "select").canLay0 = true := by decide +kernel
theorem k5 : (PyData.str "plural").canLay0 = true := by decide +kernel
theorem ndD_ok (hf : ∀ m b, W b m → (f m).canLay0 = true ∧ (f m).depth ≤ n) {b : Bool} {nd : Nd M} (w : WfN W b nd) : (ndD f nd).canLay0 = true ∧ (ndD f nd).depth ≤ n + 3 := by
  cases nd with
  | txt s =>
    have := s_ok w
    exact ⟨by simp [ndD, PyData.canLay0, PyData.canLayAll0] at *; exact ⟨k1, this⟩, by simp [ndD, PyData.depth, PyData.depthAll]⟩
  | shw s =>
    have := s_ok w
    exact ⟨by simp [ndD, PyData.canLay0, PyData.canLayAll0] at *; exact ⟨k2, this⟩, by simp [ndD, PyData.depth, PyData.depthAll]⟩
  | num => exact ⟨by simp [ndD, PyData.canLay0, PyData.canLayAll0]; exact k3, by simp [ndD, PyData.depth, PyData.depthAll]⟩
  | sel s cs o =>
    obtain ⟨w1, w2, w3, w4, w5, w6⟩ := w
    obtain ⟨c1, c2⟩ := csD_ok hf w4 w5
    obtain ⟨o1, o2⟩ := hf o b w6
    have e := s_ok w1
    refine ⟨?_, ?_⟩
    · simp only [ndD, PyData.canLay0, PyData.canLayAll0, c1, o1, Bool.and_true] at e ⊢
      rw [e]
      exact Bool.and_eq_true_iff.mpr ⟨k4, rfl⟩
    · simp only [ndD, PyData.depthAll, PyData.depth]
      omega
  | plu s off cs o =>
    obtain ⟨w1, _, _, w2, w3, w4, w5, w6⟩ := w
    obtain ⟨c1, c2⟩ := csD_ok hf w4 w5
    obtain ⟨o1, o2⟩ := hf o true w6
    have e := s_ok w1
    refine ⟨?_, ?_⟩
    · simp only [ndD, PyData.canLay0, PyData.canLayAll0, c1, o1, Bool.and_true] at e ⊢
      rw [e]
      exact Bool.and_eq_true_iff.mpr ⟨k5, rfl⟩
    · simp only [ndD, PyData.depthAll, PyData.depth]
      omega
theorem ndsD_ok (hf : ∀ m b, W b m → (f m).canLay0 = true ∧ (f m).depth ≤ n) {b : Bool} : ∀ {nds : List (Nd M)}, (∀ nd ∈ nds, WfN W b nd) → PyData.canLayAll0 (ndsD f nds) = true ∧ PyData.depthAll (ndsD f nds) ≤ n + 3
  | [], _ => ⟨rfl, Nat.zero_le _⟩
  | nd :: r, h => by
    obtain ⟨a1, a2⟩ := ndD_ok hf (h nd (by simp))
    obtain ⟨c1, c2⟩ := ndsD_ok hf (nds := r) (fun x hx => h x (by simp [hx]))
    refine ⟨?_, ?_⟩
    · simp [ndsD, PyData.canLayAll0, a1, c1]
    · simp only [ndsD, PyData.depthAll]
      omega
end
theorem msD_ok : ∀ (d : Nat) (b : Bool) (m : Msg d), Wf d b m → (msD d m).canLay0 = true ∧ (msD d m).depth ≤ 4 * d
  | 0, _, m, _ => nomatch m
  | d + 1, b, m, w => by
    obtain ⟨c1, c2⟩ := ndsD_ok (fun m b w => msD_ok d b m w) w.2
    refine ⟨?_, ?_⟩
    · simp only [msD, PyData.canLay0]
      exact c1
    · simp only [msD, PyData.depth]
      have : 4 * (d + 1) = 4 * d + 4 := by omega
      exact Nat.le_trans (Nat.succ_le_succ c2) (by omega)
theorem msD_shaped {d : Nat} {b : Bool} {m : Msg d} (h : d ≤ 3) (w : Wf d b m) : SeqAt.shaped (msD d m) = true := by
  obtain ⟨h1, h2⟩ := msD_ok d b m w
  exact Bool.and_eq_true_iff.mpr ⟨h1, decide_eq_true (by omega)⟩
end MW

set_option Elab.async false
set_option linter.all false
set_option maxRecDepth 100000
set_option maxHeartbeats 2000000
/-! G5: isinstance of a caught error with a dict of its own; str of an int or a text. -/
namespace MW
open PySem PySem.Spec PyProof.Rows L2
/-- isinstance(e, c), e the exception that the suite holds, of class cls, with its dict at d -/
def rIsEd (K : PySem.W.Frag) (a : Addr) (cls : Value) (d : Option Addr) : List V → Hp → VK → Prop := fun xs H Q => ∃ (D dd : Addr) (fs : List (Str × V)) (c : V) (cv : Value) (b : Bool), cls = .ref D ∧ d = some dd ∧ ExcC K D ∧ H dd = some (.xd fs) ∧
  xs = [.ref a, c] ∧ (∀ u, RelV c u → u = cv) ∧ PySem.W.kitOne K (.ref D) cv = some b ∧ Q (.bl b) H
theorem call_isEd {X : Cx} {a : Addr} {cls : Value} {d : Option Addr} {oe : Obj} {pn : List (Addr × Obj)} (hz : Zc cls d oe) (hf : ∃ vs, oe.data = .fields vs) : CallR (X.suite a ((a, oe) :: pn)) (.builtin "isinstance") (rIsEd X.K a cls d) := by
  intro pins s σ H xs us Q I r h
  obtain ⟨D, dd, fs, c, cv, b, rfl, rfl, C, hd, rfl, hcv, e, q⟩ := h
  cases r with
  | cons rx rr =>
    cases rr with
    | cons rt rr =>
      cases rr
      cases rx
      have ec := hcv _ rt
      subst ec
      obtain ⟨hget, _⟩ := I.pin (a, oe) (List.mem_append.mpr (.inl List.mem_cons_self))
      obtain ⟨vs, hv⟩ := hf
      have hx : ObjOk X.prog X.w H s.heap dd (.xd fs) := I.hok dd _ hd
      obtain ⟨mA, hns, hr⟩ := hx
      obtain ⟨od, ho, hl⟩ := lookIn_ns hns
      have J : PySem.W.InstAt s.heap a oe D (some od) := ⟨hget, hz.1, by unfold PySem.W.notCls; rw [hv] <;> rfl, by rw [hz.2]; exact ho⟩
      refine PySem.W.kia_one (PySem.W.kitx_exc ?_ C.hg C.hk C.hs C.ha C.hn C.ht C.hm) I.kIn J e (fun z => nomatch z) fun tk => ⟨.bl b, H, I.kept (t' := tk) fun _ _ z => z, rfl, q⟩
      obtain ⟨cd, hc, _⟩ := PySem.W.any_some C.hd
      rw [hc]
      rfl
/-- str(x), x an int or a text -/
theorem call_strV {X : Cx} : CallR X (.type "str") (fun xs H Q => ∃ v, xs = [v] ∧ ((∃ i, v = .int i ∧ i.natAbs.log2 < 1920) ∨ ∃ s, v = .str s) ∧ Q (.str (strV v)) H) := by
  intro pins s σ H xs us Q I r h
  obtain ⟨v, rfl, hv, q⟩ := h
  rcases hv with ⟨i, rfl, hi⟩ | ⟨z, rfl⟩
  · exact call_str_int pins s σ H _ us Q I r ⟨i, rfl, hi, q⟩
  · exact SkE.call_str_str pins s σ H _ us Q I r ⟨z, rfl, q⟩
end MW

set_option Elab.async false
set_option linter.all false
set_option maxRecDepth 100000
set_option maxHeartbeats 2000000
/-! W1: cases_of, other_of, Language, relation_holds, condition_holds, category_of; the law's own _law_holds, _law_category. -/
namespace MW
open PySem PySem.Spec PyProof.Rows L2
open GA (Tk TG CodeT BM GScp gscp_by pe_anyG pe_allG gw_list tGen)
def top (i : Nat) : Stmt := PySem.Challenge.pw_messageways_k11_what_messages_show.main.body.getD i (.Pass ⟨0, 0, 0, 0⟩)
abbrev sCases : Stmt := top 10
abbrev sOther : Stmt := top 11
abbrev sLang : Stmt := inClass (top 13) 0
abbrev sRel : Stmt := top 14
abbrev sCond : Stmt := top 15
abbrev sCat : Stmt := top 16
abbrev sHolds : Stmt := top 36
abbrev sLCat : Stmt := top 37
/-- a def whose code object stands at c -/
structure FunC (K : PySem.W.Frag) (x qual : Str) (st : Stmt) (f : Addr) (fd : FuncData) (c : Addr) : Prop where
  ex : ∃ (oc : Value) (od : Option Addr) (kV doc pm : Value) (an : Option Addr) (ct : Value) (osl : Array (Option Value)),
    fd = PySem.W.fnOf x qual (defArgs st) (defBody st) (defScope st) .none kV doc pm an (.ref c) ct ∧ K.lookup f = some ⟨oc, od, .func fd, osl⟩ ∧ PySem.W.codeIn K (.ref c) qual = true
  kp : PySem.W.keepIn K (.ref f) = true
section
variable {P : Program} {w : World} {K : PySem.W.Frag} {mg : Str → Option Value} {base : Heap}
theorem FunC.ok {x qual : Str} {st : Stmt} {f c : Addr} {fd : FuncData} {N ps : List Str} {k : Nat} {sp : Sp} (F : FunC K x qual st f fd c) (S : FnScope N ps (defScope st)) (len : ∀ vs H Q E, sp vs H Q E → vs.length = ps.length)
    (hbody : ∀ (A : Around) (outer : List Env) (s : Shared) (H : Hp) (vs : List V) (Q : VK) (E : XK), Room k (A.deeper (envOfC qual (defScope st) s.heap.objs.size f (.ref c))) → sp vs H Q E →
      ∃ t, PSs (cxOf CX0 P w K mg base N qual (defScope st) f (.ref c) A outer s H E).nox (defBody st) t ∧ t { nx := fun _ H' => Q .non H', rt := Q } (start N vs) H) : FnOk P w K mg base CX0 (k + 1) f fd ps sp := by
  obtain ⟨oc, od, kV, doc, pm, an, ct, osl, rfl, lk, hcd⟩ := F.ex
  refine fn_of lk hcd S len fun A outer s H vs Q E hr hsp => ?_
  obtain ⟨t, h, q⟩ := hbody A outer s H vs Q E hr hsp
  exact ⟨t, h.nox, q⟩
end
/-- a def that may be called by its name -/
structure Dn (P : Program) (w : World) (K : PySem.W.Frag) (mg : Str → Option Value) (base : Heap) (CX : CXT) (x : Str) (ps : List Str) (k : Nat) (sp : Sp) : Prop where
  ex : ∃ (f : Addr) (fd : FuncData), FnOk P w K mg base CX k f fd ps sp ∧ mg x = some (.ref f) ∧ PySem.W.keepIn K (.ref f) = true ∧ Binds K fd ps []
section
variable {X : Cx} {k : Nat} {ps : List Str} {sp : Sp} {x : Str} {p pos : Pos} {e : Expr} {es : List Expr} {t : TA}
theorem pe_dn (D : Dn X.prog X.w X.K X.mg X.base CX0 x ps k sp) (hr : Room k X.A) (hg : Gl X x)
    (ha : PA X (e :: es) t) (hdb : (x == ("__debug__" : Str)) = false := by decide) (he : starEach (e :: es) X.env = (false, eval e X.env) :: starEach es X.env := by rfl) (hpl : (backTo pos (starEach es X.env)).any (·.1) = false := by rfl) :
    PE X (.Call (.Name x p) (e :: es) [] pos) (tCall sp [] E0 t) := by
  obtain ⟨f, fd, F, m, kp, b⟩ := D.ex
  exact pe_call F hr hg m kp b .nil pass0 ha hdb he hpl
theorem pe_dnS {E : L2.St → XK} (D : Dn X.prog X.w X.K X.mg X.base (L2.CX X.prog X.w) x ps k sp) (hr : Room k X.A) (hg : Gl X x) (hx : ∀ σ, PassesAt (L2.CX X.prog X.w) X σ (E σ))
    (ha : PA X (e :: es) t) (hdb : (x == ("__debug__" : Str)) = false := by decide) (he : starEach (e :: es) X.env = (false, eval e X.env) :: starEach es X.env := by rfl) (hpl : (backTo pos (starEach es X.env)).any (·.1) = false := by rfl) :
    PE X (.Call (.Name x p) (e :: es) [] pos) (tCallS sp E t) := by
  obtain ⟨f, fd, F, m, kp, b⟩ := D.ex
  exact pe_callS F hr hg m kp b hx ha hdb he hpl
end
/-- the built-ins' names are free -/
structure Bt (mg : Str → Option Value) : Prop where
  any : mg "any" = none
  all : mg "all" = none
  list : mg "list" = none
  isi : mg "isinstance" = none
  str : mg "str" = none
  dict : mg "dict" = none
  len : mg "len" = none
  int : mg "int" = none
  range : mg "range" = none
  tuple : mg "tuple" = none
section
variable {P : Program} {w : World} {K : PySem.W.Frag} {mg : Str → Option Value} {base : Heap}
/-! ### node[-2], node[-1] -/
def spCases : Sp := fun vs H Q _ => ∃ (p : Addr) (xs : List V) (v : V), vs = [.ref p] ∧ H p = some (.tup xs) ∧ atI xs (-2) = some v ∧ Q v H
def spOther : Sp := fun vs H Q _ => ∃ (p : Addr) (xs : List V) (v : V), vs = [.ref p] ∧ H p = some (.tup xs) ∧ atI xs (-1) = some v ∧ Q v H
theorem scCases : FnScope ["node"] ["node"] (defScope sCases) := ⟨rfl, rfl, rfl, by decide +kernel, rfl, by decide +kernel, by decide +kernel⟩
theorem scOther : FnScope ["node"] ["node"] (defScope sOther) := ⟨rfl, rfl, rfl, by decide +kernel, rfl, by decide +kernel, by decide +kernel⟩
theorem ok_cases {f : Addr} {fd : FuncData} (F : Fun K "cases_of" "cases_of" sCases f fd) : FnOk P w K mg base CX0 1 f fd ["node"] spCases := by
  refine F.ok scCases (fun vs H Q E h => ?_) (fun cdv A outer s H vs Q E hr h => ?_)
  · obtain ⟨p, xs, v, rfl, _⟩ := h
    rfl
  obtain ⟨p, xs, v, rfl, hp, hv, q⟩ := h
  refine ⟨_, pss_one (ps_ret (pe_ix ix_tup (pv 0) (pe_un un_neg pe_int) (fun _ _ => rfl))), ?_⟩
  exact ⟨_, rfl, _, rfl, p, xs, _, v, rfl, rfl, SqT.of hp, hv, q⟩
theorem ok_other {f : Addr} {fd : FuncData} (F : Fun K "other_of" "other_of" sOther f fd) : FnOk P w K mg base CX0 1 f fd ["node"] spOther := by
  refine F.ok scOther (fun vs H Q E h => ?_) (fun cdv A outer s H vs Q E hr h => ?_)
  · obtain ⟨p, xs, v, rfl, _⟩ := h
    rfl
  obtain ⟨p, xs, v, rfl, hp, hv, q⟩ := h
  refine ⟨_, pss_one (ps_ret (pe_ix ix_tup (pv 0) (pe_un un_neg pe_int) (fun _ _ => rfl))), ?_⟩
  exact ⟨_, rfl, _, rfl, p, xs, _, v, rfl, rfl, SqT.of hp, hv, q⟩
/-! ### relation_holds -/
def spRel (P : Addr) : Sp := fun vs H Q _ => ∃ (v : V) (r : Rel) (n : Int), vs = [v, .int n] ∧ IsRel H v r ∧ TG 1 H P ∧ ∀ H', Tk H H' → Q (.bl (relH n r)) H'
theorem scRel : FnScope ["relation", "number", "modulus", "inside", "ranges", "value", "low", "high"] ["relation", "number"] (defScope sRel) := ⟨rfl, rfl, rfl, by decide +kernel, rfl, by decide +kernel, by decide +kernel⟩
theorem any_step {α : Type} (f : α → Bool) (xs : List α) {i : Nat} {x : α} (h : xs[i]? = some x) : xs.drop i = x :: xs.drop (i + 1) := by
  obtain ⟨hi, e⟩ := List.getElem?_eq_some_iff.mp h
  rw [← e]
  exact List.drop_eq_getElem_cons hi
theorem any_take {α : Type} {f : α → Bool} {xs : List α} {i : Nat} {x : α} (h : xs[i]? = some x) : (xs.take (i + 1)).any f = ((xs.take i).any f || f x) := by
  obtain ⟨hi, e⟩ := List.getElem?_eq_some_iff.mp h
  rw [List.take_succ_eq_append_getElem hi, List.any_append, e]
  simp
theorem all_take {α : Type} {f : α → Bool} {xs : List α} {i : Nat} {x : α} (h : xs[i]? = some x) : (xs.take (i + 1)).all f = ((xs.take i).all f && f x) := by
  obtain ⟨hi, e⟩ := List.getElem?_eq_some_iff.mp h
  rw [List.take_succ_eq_append_getElem hi, List.all_append, e]
  simp
theorem any_hit {α : Type} {f : α → Bool} {xs : List α} {i : Nat} {x : α} (h : xs[i]? = some x) (e : f x = true) : xs.any f = true := List.any_eq_true.mpr ⟨x, List.mem_of_getElem? h, e⟩
theorem all_miss {α : Type} {f : α → Bool} {xs : List α} {i : Nat} {x : α} (h : xs[i]? = some x) (e : f x = false) : xs.all f = false := by
  refine Bool.eq_false_iff.mpr fun z => ?_
  have q := List.all_eq_true.mp z x (List.mem_of_getElem? h)
  rw [e] at q
  cases q
theorem rel_tail {c P0 p l : Addr} {n m z : Int} {b : Bool} {rs : List (Int × Int)} {rvs : List V} {H : Hp} {D : Ends} {Q : VK} (eD : D.rt = Q) (hl : H l = some (.lst rvs)) (pr : Paired (IsRng H) rvs rs) (hT : TG 1 H P0) (hcd : PySem.W.CodeHd base c P0)
    (q : ∀ H', Tk H H' → Q (.bl ((rs.any (inRng z)) == b)) H') :
    (tRet (tOp rEq (tGen base c P0 0 true (iList K (tVar 4)) (gTup K 2 (gCons (gName 6) (gCons (gName 7) gNil))) (fun _ _ => tChain (rI0 fun i j => .bl (decide (i ≤ j))) (rI0 fun i j => .bl (decide (i ≤ j))) (tVar 6) (tVar 5) (tVar 7)) [6, 7]) (tVar 3)))
      D [some (.ref p), some (.int n), some (.int m), some (.bl b), some (.ref l), some (.int z), none, none] H := by
  subst eD
  refine ⟨_, rfl, l, rfl, ⟨_, SqL.of hl⟩, hT, .inl hcd, fun c1 P1 H2 tk _ _ => gw_list (K := K) (a := l) (xs := rvs) (fun i H' => Tk H H' ∧ (rs.take i).any (inRng z) = false) ⟨tk, by simp⟩ (fun i H' _ ⟨t, _⟩ => SqL.of ((Mn.tk t).lst hl)) ?_ ?_⟩
  · rintro i x H' hx ⟨t, hno⟩
    obtain ⟨r, hr, pp, rfl, hpp⟩ := Paired.get pr hx
    refine ⟨pp, _, rfl, SqT.of ((Mn.tk t).tup hpp), rfl, _, _, rfl, _, _, rfl, rfl, rfl, ?_⟩
    have fin : ∀ k : Bool, k = inRng z r → (k = true → D.rt (.bl ((rs.any (inRng z)) == b)) H') ∧ (k ≠ true → Tk H H' ∧ (rs.take (i + 1)).any (inRng z) = false) := fun k ek => by
      refine ⟨fun e => q _ t, fun e => ⟨t, ?_⟩⟩
      rw [any_take hr, hno, ← ek]
      cases k with
      | true => exact absurd rfl e
      | false => rfl
    refine ⟨_, rfl, _, rfl, _, _, rfl, rfl, _, rfl, ?_⟩
    refine ite2 (fun c => ?_) (fun c => ?_)
    · refine ⟨_, rfl, _, _, rfl, rfl, _, rfl, ?_⟩
      have e : decide (z ≤ r.2) = inRng z r := by unfold inRng; rw [c, Bool.true_and]
      obtain ⟨f1, f2⟩ := fin _ e
      refine ⟨fun y => ⟨_, rfl, rfl, ?_⟩, f2⟩
      have e2 := any_hit (f := inRng z) hr (e ▸ y)
      have f3 := f1 y
      rw [e2] at f3
      have ed : decide (V.bl true = V.bl b) = (true == b) := by cases b <;> rfl
      show D.rt (V.bl (decide (V.bl true = V.bl b))) H'
      rw [ed]
      exact f3
    · have e : false = inRng z r := by unfold inRng; rw [Bool.eq_false_iff.mpr c, Bool.false_and]
      exact ⟨_, rfl, fun y => Bool.noConfusion y, (fin _ e).2⟩
  · rintro H' ⟨t, hno⟩
    rw [Paired.len pr, List.take_length] at hno
    refine ⟨_, rfl, rfl, ?_⟩
    have f3 := q _ t
    rw [hno] at f3
    have ed : decide (V.bl (!true) = V.bl b) = (false == b) := by cases b <;> rfl
    show D.rt (V.bl (decide (V.bl (!true) = V.bl b))) H'
    rw [ed]
    exact f3
theorem ok_rel {f c P0 : Addr} {fd : FuncData} (F : FunC K "relation_holds" "relation_holds" sRel f fd c) (B : Bt mg) (hbm : BM base mg) (hcd : PySem.W.CodeHd base c P0) : FnOk P w K mg base CX0 3 f fd ["relation", "number"] (spRel P0) := by
  refine F.ok scRel (fun vs H Q E h => ?_) (fun A outer s H vs Q E hr h => ?_)
  · obtain ⟨v, r, n, rfl, _⟩ := h
    rfl
  obtain ⟨v, r, n, rfl, ⟨p, wv, rfl, hp, l, rvs, rfl, hl, pr⟩, hT, q⟩ := h
  obtain ⟨m, b, rs⟩ := r
  refine ⟨_, pss_cons (ps_asg (pv 0) (pg_tup (by rfl) (pgs_cons (pg_name (i := 2) scRel.nd rfl (Or.inl rfl)) (pgs_cons (pg_name (i := 3) scRel.nd rfl (Or.inl rfl)) (pgs_cons (pg_name (i := 4) scRel.nd rfl (Or.inl rfl)) pgs_nil)))))
    (pss_cons (ps_set (i := 5) scRel.nd rfl (Or.inr rfl) (pv 1))
    (pss_cons (ps_if (pt_cmpR op_gt (pv 2) pe_int (nomark _)) (pss_one (ps_set (i := 5) scRel.nd rfl (Or.inr rfl) (pe_op op_modN (pv 1) (pv 2)))) pss_nil)
    (pss_one (ps_ret (pe_cmpR op_eq (pe_anyG (c := c) (P := P0) (n := 0) (g := gTup K 2 (gCons (gName 6) (gCons (gName 7) gNil))) (own := [("low", 6), ("high", 7)]) (k := 1) hr rfl B.any scRel.nd rfl hbm (pi_list (pv 4))
      (blkOk_by (own := [("low", 6), ("high", 7)]) (N := ["relation", "number", "modulus", "inside", "ranges", "value", "low", "high"]) (sc := defScope sRel) (by decide +kernel)) gscp_by
      (fun s H L code A fp pn => pg_tup (by rfl) (pgs_cons (pg_name (i := 6) scRel.nd rfl (Or.inl rfl)) (pgs_cons (pg_name (i := 7) scRel.nd rfl (Or.inl rfl)) pgs_nil)))
      (fun s H L c1 P1 A fp pn hk => pe_chain op_le op_le (pv 6) (pv 5) (pv 7)) (fun v => rfl)) (pv 3) (nomark _)))))), ?_⟩
  refine ⟨_, rfl, p, _, rfl, SqT.of hp, rfl, _, _, rfl, _, _, rfl, _, _, rfl, rfl, _, rfl, _, rfl, _, _, rfl, rfl, _, rfl, ?_⟩
  refine ite2 (fun c => ?_) (fun c => ?_)
  · have c' : 0 < m := of_decide_eq_true c
    refine ⟨_, rfl, _, rfl, _, _, rfl, rfl, (by omega), ?_⟩
    have e : modV (m, b, rs) n = n.fmod m := if_pos c'
    exact rel_tail rfl hl pr hT hcd (by rw [← e]; exact q)
  · have c' : ¬ 0 < m := of_decide_eq_false (Bool.eq_false_iff.mpr c)
    have e : modV (m, b, rs) n = n := if_neg c'
    exact rel_tail rfl hl pr hT hcd (fun H' t => by
      have z := q H' t
      unfold relH at z
      rw [e] at z
      exact z)
/-! ### condition_holds -/
def spCond (P1 P2 : Addr) : Sp := fun vs H Q _ => ∃ (v : V) (c : Cond) (n : Int), vs = [v, .int n] ∧ IsCond H v c ∧ TG 1 H P1 ∧ TG 2 H P2 ∧ ∀ H', Tk H H' → Q (.bl (condH n c)) H'
theorem scCond : FnScope ["condition", "number", "row", "relation"] ["condition", "number"] (defScope sCond) := ⟨rfl, rfl, rfl, by decide +kernel, rfl, by decide +kernel, by decide +kernel⟩
def genSc : Stmt → Scope
  | .Return (some (.Call _ [.GeneratorExp _ _ sc _] _ _)) _ => sc
  | .FunctionDef (scope := sc) .. => sc
  | _ => { kind := .module, names := [], isGenerator := false, isCoroutine := false }
abbrev condGen : Scope := genSc ((defBody sCond).getD 0 (.Pass ⟨0, 0, 0, 0⟩))
theorem ok_cond {f c P0 P1 : Addr} {fd : FuncData} (F : FunC K "condition_holds" "condition_holds" sCond f fd c) (B : Bt mg) (hbm : BM base mg) (hcd : PySem.W.CodeHd base c P0) (GR : Dn P w K mg base CX0 "relation_holds" ["relation", "number"] 3 (spRel P1)) :
    FnOk P w K mg base CX0 6 f fd ["condition", "number"] (spCond P1 P0) := by
  refine F.ok scCond (fun vs H Q E h => ?_) (fun A outer s H vs Q E hr h => ?_)
  · obtain ⟨v, c, n, rfl, _⟩ := h
    rfl
  obtain ⟨v, cs, n, rfl, ⟨l, rvs, rfl, hl, pr⟩, hT1, hT2, q⟩ := h
  refine ⟨_, pss_one (ps_ret (pe_anyG (c := c) (P := P0) (n := 1) (g := gName 2) (own := [("row", 2)]) (k := 4) (te := fun c1 P2 => tGen base c1 P2 0 false (iList K (tVar 2)) (gName 3) (fun _ _ => tCall (spRel P1) [] E0 (tCons (tVar 3) (tCons (tVar 1) tNil))) [3])
      hr rfl B.any scCond.nd rfl hbm (pi_list (pv 0))
      (blkOk_by (own := [("row", 2)]) (N := ["condition", "number", "row", "relation"]) (sc := defScope sCond) (by decide +kernel)) gscp_by
      (fun s H L code A fp pn => pg_name (i := 2) scCond.nd rfl (Or.inl rfl))
      (fun s H L c1 P2 A fp pn hk => pe_allG (c := c1) (P := P2) (n := 0) (g := gName 3) (own := [("relation", 3)]) (k := 3) (te := fun _ _ => tCall (spRel P1) [] E0 (tCons (tVar 3) (tCons (tVar 1) tNil)))
        hk rfl B.all scCond.nd rfl hbm (pi_list (pv 2)) (blkOk_by (own := [("relation", 3)]) (N := ["condition", "number", "row", "relation"]) (sc := condGen) (by decide +kernel)) gscp_by
        (fun s H L code A fp pn => pg_name (i := 3) scCond.nd rfl (Or.inl rfl))
        (fun s H L c2 P3 A fp pn hk2 => pe_dn GR hk2 rfl (pa_cons (pv 3) (pa_cons (pv 1) pa_nil))) (fun v => rfl)) (fun v => rfl))), ?_⟩
  refine ⟨_, rfl, l, rfl, ⟨_, SqL.of hl⟩, hT2, .inl hcd, fun c1 P2 H2 tk ec1 eT1 => gw_list (K := K) (a := l) (xs := rvs) (fun i H' => Tk H2 H' ∧ (cs.take i).any (rowH n) = false) ⟨Tk.refl _, by simp⟩ (fun i H' _ ⟨t, _⟩ => SqL.of ((Mn.tk (tk.trans t)).lst hl)) ?_ ?_⟩
  · rintro i x H' hx ⟨t, hno⟩
    obtain ⟨row, hrow, rr⟩ := Paired.get pr hx
    obtain ⟨l2, ws, rfl, hl2, pr2⟩ := rr.mn (Mn.tk (tk.trans t))
    refine ⟨rfl, _, rfl, l2, rfl, ⟨_, SqL.of hl2⟩, t.tg _ _ eT1, .inr (t.ext _ _ ec1 GA.codeT_ne), fun c2 P3 H3 tk2 _ _ => gw_list (K := K) (a := l2) (xs := ws) (fun j H4 => Tk H2 H4 ∧ Tk H' H4 ∧ (row.take j).all (relH n) = true) ⟨t.trans tk2, tk2, by simp⟩ (fun j H4 _ ⟨_, t4, _⟩ => SqL.of ((Mn.tk t4).lst hl2)) ?_ ?_⟩
    · rintro j y H4 hy ⟨t3, t4, hall⟩
      obtain ⟨r, hr', rv⟩ := Paired.get pr2 hy
      have tt : Tk H H4 := tk.trans t3
      refine ⟨rfl, _, rfl, _, rfl, y, r, n, rfl, rv.mn (Mn.tk t4), tt.tg _ _ hT1, fun H5 t5 => ⟨_, rfl, fun e => ?_, fun e => ?_⟩⟩
      · have e2 := all_miss (f := relH n) hr' e
        have e3 : (row.all (relH n)) = false := e2
        refine ⟨_, rfl, fun z => Bool.noConfusion z, fun _ => ⟨t3.trans t5, ?_⟩⟩
        rw [any_take hrow, hno]
        exact e3
      · have e' : relH n r = true := by cases z : relH n r with
          | true => rfl
          | false => exact absurd z e
        refine ⟨t3.trans t5, t4.trans t5, ?_⟩
        rw [all_take hr', hall, e']
        rfl
    · rintro H4 ⟨t3, t4, hall⟩
      rw [Paired.len pr2, List.take_length] at hall
      refine ⟨_, rfl, fun _ => ?_, fun z => absurd rfl z⟩
      have e := any_hit (f := rowH n) hrow hall
      have z := q H4 (tk.trans t3)
      unfold condH at z
      rw [e] at z
      exact z
  · rintro H' ⟨t, hno⟩
    rw [Paired.len pr, List.take_length] at hno
    have z := q H' (tk.trans t)
    unfold condH at z
    rw [hno] at z
    exact z
end
end MW

set_option Elab.async false
set_option linter.all false
set_option maxRecDepth 100000
set_option maxHeartbeats 2000000
/-! W2: category_of, Language, _law_holds, _law_category. -/
namespace MW
open PySem PySem.Spec PyProof.Rows L2
open GA (Tk TG CodeT BM GScp gscp_by pe_anyG pe_allG gw_list tGen)
/-- the class Language and the constants -/
structure Lc (K : PySem.W.Frag) (mg : Str → Option Value) (C : Addr) : Prop where
  cl : Cls K C
  nR : NoAttr K C "rules"
  text : ∃ t, mg "TEXT" = some (.str "text" t)
  shw : ∃ t, mg "SHOW" = some (.str "show" t)
  num : ∃ t, mg "NUMBER" = some (.str "number" t)
  sel : ∃ t, mg "SELECT" = some (.str "select" t)
  other : ∃ t, mg "OTHER" = some (.str "other" t)
section
variable {P : Program} {w : World} {K : PySem.W.Frag} {mg : Str → Option Value} {base : Heap}
/-! ### category_of -/
def spCat (C P1 P2 : Addr) : Sp := fun vs H Q _ => ∃ (v : V) (rs : Rules) (n : Int), vs = [v, .int n] ∧ IsLang C H v rs ∧ TG 1 H P1 ∧ TG 2 H P2 ∧ ∀ H', Tk H H' → Q (.str (catOf rs n)) H'
theorem scCat : FnScope ["language", "number", "category", "condition"] ["language", "number"] (defScope sCat) := ⟨rfl, rfl, rfl, by decide +kernel, rfl, by decide +kernel, by decide +kernel⟩
theorem drop_at {α : Type} {xs : List α} {i : Nat} {x : α} (h : xs[i]? = some x) : xs.drop i = x :: xs.drop (i + 1) := by
  obtain ⟨hi, e⟩ := List.getElem?_eq_some_iff.mp h
  rw [← e]
  exact List.drop_eq_getElem_cons hi
theorem ok_cat {f C P1 P2 : Addr} {fd : FuncData} (F : Fun K "category_of" "category_of" sCat f fd) (T : Lc K mg C) (GC : Dn P w K mg base CX0 "condition_holds" ["condition", "number"] 6 (spCond P1 P2)) :
    FnOk P w K mg base CX0 7 f fd ["language", "number"] (spCat C P1 P2) := by
  refine F.ok scCat (fun vs H Q E h => ?_) (fun cdv A outer s H vs Q E hr h => ?_)
  · obtain ⟨v, rs, n, rfl, _⟩ := h
    rfl
  obtain ⟨v, rs, n, rfl, ⟨p, dx, wv, rfl, hp, l, rvs, rfl, hl, pr⟩, hT1, hT2, q⟩ := h
  obtain ⟨tO, hO⟩ := T.other
  refine ⟨_, pss_cons (ps_if (pt_cmpR op_ge (pv 1) pe_int (nomark _)) (pss_one (ps_for PassesOwn.never rfl (pi_list (pe_fld (pv 0) rfl)) (pg_tup (by rfl) (pgs_cons (pg_name (i := 2) scCat.nd rfl (Or.inl rfl)) (pgs_cons (pg_name (i := 3) scCat.nd rfl (Or.inl rfl)) pgs_nil)))
      (pss_one (ps_if (pt_val (pe_dn GC hr rfl (pa_cons (pv 3) (pa_cons (pv 1) pa_nil)))) (pss_one (ps_ret (pv 2))) pss_nil)))) pss_nil)
    (pss_one (ps_ret (pe_glob (v := .str "other") rfl hO ⟨_, rfl⟩))), ?_⟩
  refine ⟨_, rfl, _, _, rfl, rfl, _, rfl, ?_⟩
  refine ite2 (fun c => ?_) (fun c => ?_)
  · have c' : 0 ≤ n := of_decide_eq_true c
    refine ⟨_, rfl, p, C, dx, _, _, rfl, hp, T.cl, T.nR, (by rfl), l, rfl, ⟨_, SqL.of hl⟩, for_list (K := K) (a := l) (xs := rvs) (fun i σ H' => ∃ v2 v3 : Option V, σ = [some (.ref p), some (.int n), v2, v3] ∧ Tk H H' ∧ firstR n rs = firstR n (rs.drop i))
      ⟨none, none, rfl, Tk.refl _, rfl⟩ (fun i σ H' _ ⟨_, _, _, t, _⟩ => SqL.of ((Mn.tk t).lst hl)) ?_ ?_⟩
    · rintro i x σ H' hx ⟨v2, v3, rfl, t, e⟩
      obtain ⟨r, hr', p2, w2, rfl, hp2, hc⟩ := Paired.get pr hx
      refine ⟨p2, _, rfl, SqT.of ((Mn.tk t).tup hp2), rfl, _, _, rfl, _, _, rfl, rfl, ?_⟩
      refine ⟨_, rfl, _, rfl, w2, r.2, n, rfl, hc.mn (Mn.tk t), (t.tg _ _ hT1), (t.tg _ _ hT2), fun H2 t2 => ⟨_, rfl, ?_⟩⟩
      rw [drop_at hr'] at e
      refine ite2 (fun k => ?_) (fun k => ?_)
      · have z := q H2 (t.trans t2)
        have e2 : catOf rs n = r.1 := by
          unfold catOf
          rw [if_pos (show n ≥ 0 from c'), e]
          exact if_pos k
        rw [e2] at z
        exact ⟨_, rfl, z⟩
      · exact ⟨_, _, rfl, t.trans t2, e.trans (if_neg k)⟩
    · rintro σ H' ⟨v2, v3, rfl, t, e⟩
      have e2 : catOf rs n = "other" := by
        unfold catOf
        rw [if_pos (show n ≥ 0 from c'), e, Paired.len pr, List.drop_length]
        rfl
      have z := q H' t
      rw [e2] at z
      exact z
  · have c' : ¬ 0 ≤ n := of_decide_eq_false (Bool.eq_false_iff.mpr c)
    have e2 : catOf rs n = "other" := if_neg c'
    have z := q H (Tk.refl _)
    rw [e2] at z
    exact z
/-! ### Language(rules) -/
def spLang (C : Addr) : Sp := fun vs H Q _ => ∃ (p dx a : Addr) (xs : List V), vs = [.ref p, .ref a] ∧ H p = some (.ins C dx []) ∧ H a = some (.lst xs) ∧ ∀ l, H l = none → Q .non (upd (upd H l (.lst xs)) p (.ins C dx [("rules", .ref l)]))
theorem scLang : FnScope ["self", "rules"] ["self", "rules"] (defScope sLang) := ⟨rfl, rfl, rfl, by decide +kernel, rfl, by decide +kernel, by decide +kernel⟩
theorem ok_lang {f C : Addr} {fd : FuncData} (F : Fun K "__init__" "Language.__init__" sLang f fd) (B : Bt mg) (T : Lc K mg C) : FnOk P w K mg base CX0 1 f fd ["self", "rules"] (spLang C) := by
  refine F.ok scLang (fun vs H Q E h => ?_) (fun cdv A outer s H vs Q E hr h => ?_)
  · obtain ⟨p, dx, a, xs, rfl, _⟩ := h
    rfl
  obtain ⟨p, dx, a, xs, rfl, hp, ha, q⟩ := h
  refine ⟨_, pss_one (ps_fld (pv 0) (pe_callTy call_list_of rfl B.list (by decide +kernel) (pa_cons (pv 1) pa_nil)) rfl), ?_⟩
  refine ⟨_, rfl, a, xs, rfl, .inl (SqL.of ha), fun l hl => ?_⟩
  refine ⟨_, rfl, p, C, dx, [], rfl, (by rw [upd_ne (ne_of_none hp hl)]; exact hp), T.cl, T.nR, (by show 0 < 1000; decide), ?_⟩
  exact q l hl
/-! ### the law's own -/
theorem bl_ne {a b : Bool} : (!decide (V.bl a = V.bl b)) = !(a == b) := by cases a <;> cases b <;> rfl
def spHolds : Sp := fun vs H Q _ => ∃ (v : V) (c : Cond) (n : Int), vs = [v, .int n] ∧ IsCond H v c ∧ Q (.bl (condH n c)) H
abbrev nHolds : List Str := ["_law_condition_here", "_law_number", "_law_row_here", "_law_good", "_law_modulus", "_law_inside", "_law_ranges", "_law_value", "_law_within", "_law_low", "_law_high"]
theorem scHolds : FnScope nHolds ["_law_condition_here", "_law_number"] (defScope sHolds) := ⟨rfl, rfl, rfl, by decide +kernel, rfl, by decide +kernel, by decide +kernel⟩
theorem ok_holds {f : Addr} {fd : FuncData} (F : Fun K "_law_holds" "_law_holds" sHolds f fd) (B : Bt mg) : FnOk P w K mg base CX0 1 f fd ["_law_condition_here", "_law_number"] spHolds := by
  refine F.ok scHolds (fun vs H Q E h => ?_) (fun cdv A outer s H vs Q E hr h => ?_)
  · obtain ⟨v, c, n, rfl, _⟩ := h
    rfl
  obtain ⟨v, cs, n, rfl, ⟨l, rvs, rfl, hl, pr⟩, q⟩ := h
  have nd := scHolds.nd
  refine ⟨_, pss_cons (ps_for PassesOwn.never rfl (pi_list (pv 0)) (pg_name (i := 2) nd rfl (Or.inl rfl))
      (pss_cons (ps_set (i := 3) nd rfl (Or.inl rfl) pe_bl)
      (pss_cons (ps_for PassesOwn.never rfl (pi_list (pv 2)) (pg_tup (by rfl) (pgs_cons (pg_name (i := 4) nd rfl (Or.inl rfl)) (pgs_cons (pg_name (i := 5) nd rfl (Or.inl rfl)) (pgs_cons (pg_name (i := 6) nd rfl (Or.inl rfl)) pgs_nil))))
        (pss_cons (ps_set (i := 7) nd rfl (Or.inl rfl) (pv 1))
        (pss_cons (ps_if (pt_cmpR op_gt (pv 4) pe_int (nomark _)) (pss_one (ps_set (i := 7) nd rfl (Or.inl rfl) (pe_op op_modN (pe_callTy call_int1 rfl B.int (by decide +kernel) (pa_cons (pv 1) pa_nil)) (pv 4)))) pss_nil)
        (pss_cons (ps_set (i := 8) nd rfl (Or.inl rfl) pe_bl)
        (pss_cons (ps_for PassesOwn.never rfl (pi_list (pv 6)) (pg_tup (by rfl) (pgs_cons (pg_name (i := 9) nd rfl (Or.inl rfl)) (pgs_cons (pg_name (i := 10) nd rfl (Or.inl rfl)) pgs_nil)))
          (pss_one (ps_if (pt_chain op_le op_le (pv 9) (pv 7) (pv 10)) (pss_one (ps_set (i := 8) nd rfl (Or.inl rfl) pe_bl)) pss_nil)))
        (pss_one (ps_if (pt_cmpR op_ne (pv 8) (pv 5) (nomark _)) (pss_one (ps_set (i := 3) nd rfl (Or.inl rfl) pe_bl)) pss_nil)))))))
      (pss_one (ps_if (pt_val (pv 3)) (pss_one (ps_ret pe_bl)) pss_nil)))))
    (pss_one (ps_ret pe_bl)), ?_⟩
  refine ⟨_, rfl, l, rfl, ⟨_, SqL.of hl⟩, for_list (K := K) (a := l) (xs := rvs) (fun i σ H' => H' = H ∧ (∃ o2 o3 o4 o5 o6 o7 o8 o9 o10 : Option V, σ = [some (.ref l), some (.int n), o2, o3, o4, o5, o6, o7, o8, o9, o10]) ∧ (cs.take i).any (rowH n) = false)
    ⟨rfl, ⟨none, none, none, none, none, none, none, none, none, rfl⟩, by simp⟩ (fun i σ H' _ ⟨e, _⟩ => by rw [e]; exact SqL.of hl) ?_ ?_⟩
  · rintro i x σ H' hx ⟨rfl, ⟨o2, o3, o4, o5, o6, o7, o8, o9, o10, rfl⟩, hno⟩
    obtain ⟨row, hrow, l2, ws, rfl, hl2, pr2⟩ := Paired.get pr hx
    refine ⟨_, rfl, l2, rfl, ⟨_, SqL.of hl2⟩, for_list (K := K) (a := l2) (xs := ws) (fun j σ H2 => H2 = H' ∧ (∃ o4 o5 o6 o7 o8 o9 o10 : Option V, σ = [some (.ref l), some (.int n), some (.ref l2), some (.bl ((row.take j).all (relH n))), o4, o5, o6, o7, o8, o9, o10]))
      ⟨rfl, o4, o5, o6, o7, o8, o9, o10, by simp⟩ (fun i σ H2 _ ⟨e, _⟩ => by rw [e]; exact SqL.of hl2) ?_ ?_⟩
    · rintro j y σ H2 hy ⟨rfl, o4, o5, o6, o7, o8, o9, o10, rfl⟩
      obtain ⟨r, hr', p3, w3, rfl, hp3, l3, us, rfl, hl3, pr3⟩ := Paired.get pr2 hy
      obtain ⟨m, b, rs⟩ := r
      refine ⟨p3, _, rfl, SqT.of hp3, rfl, _, _, rfl, _, _, rfl, _, _, rfl, rfl, ?_⟩
      refine ⟨_, rfl, _, rfl, _, _, rfl, rfl, _, rfl, ?_⟩
      refine ite2 (fun c => ?_) (fun c => ?_)
      · have c' : 0 < m := of_decide_eq_true c
        refine ⟨_, rfl, .inl ⟨_, rfl, _, rfl, _, _, rfl, rfl, (by omega), ?_⟩⟩
        obtain ⟨z, ez⟩ : ∃ z, z = n.fmod m := ⟨_, rfl⟩
        have hz : modV (m, b, rs) n = z := (if_pos c').trans ez.symm
        refine ⟨_, rfl, l3, rfl, ⟨_, SqL.of hl3⟩, for_list (K := K) (a := l3) (xs := us) (fun k σ H3 => H3 = H2 ∧ (∃ o9 o10 : Option V, σ = [some (.ref l), some (.int n), some (.ref l2), some (.bl ((row.take j).all (relH n))), some (.int m), some (.bl b), some (.ref l3), some (.int z), some (.bl ((rs.take k).any (inRng z))), o9, o10]))
          ⟨rfl, o9, o10, by rw [ez]; rfl⟩ (fun i σ H3 _ ⟨e, _⟩ => by rw [e]; exact SqL.of hl3) ?_ ?_⟩
        · rintro k u σ H3 hu ⟨rfl, o9, o10, rfl⟩
          obtain ⟨g, hg, pp, rfl, hpp⟩ := Paired.get pr3 hu
          have hit : ∀ kk : Bool, kk = inRng z g → ((rs.take (k + 1)).any (inRng z)) = ((rs.take k).any (inRng z) || kk) := fun kk e => by rw [any_take hg, e]
          refine ⟨pp, _, rfl, SqT.of hpp, rfl, _, _, rfl, _, _, rfl, rfl, ?_⟩
          refine ⟨_, rfl, _, rfl, _, _, rfl, rfl, _, rfl, ?_⟩
          refine ite2 (fun c1 => ?_) (fun c1 => ?_)
          · refine ⟨_, rfl, _, _, rfl, rfl, _, rfl, ?_⟩
            have e : decide (z ≤ g.2) = inRng z g := by unfold inRng; rw [c1, Bool.true_and]
            refine ite2 (fun c2 => ?_) (fun c2 => ?_)
            · exact ⟨rfl, some (.int g.1), some (.int g.2), by rw [hit true (c2.symm.trans e), Bool.or_true]; rfl⟩
            · exact ⟨rfl, some (.int g.1), some (.int g.2), by rw [hit false ((Bool.eq_false_iff.mpr c2).symm.trans e), Bool.or_false]; rfl⟩
          · have e : false = inRng z g := by unfold inRng; rw [Bool.eq_false_iff.mpr c1, Bool.false_and]
            refine ⟨_, rfl, ite2 (fun k => Bool.noConfusion k) fun _ => ?_⟩
            exact ⟨rfl, some (.int g.1), some (.int g.2), by rw [hit false e, Bool.or_false]; rfl⟩
        · rintro σ H3 ⟨rfl, o9, o10, rfl⟩
          rw [Paired.len pr3, List.take_length]
          refine ⟨_, rfl, _, rfl, rfl, _, rfl, ?_⟩
          have er : relH n (m, b, rs) = (rs.any (inRng z) == b) := by
            unfold relH
            rw [hz]
          have fin : (row.take (j + 1)).all (relH n) = ((row.take j).all (relH n) && (rs.any (inRng z) == b)) := by rw [all_take hr', er]
          refine ite2 (fun k => ?_) (fun k => ?_)
          · have k2 := (bl_ne (a := rs.any (inRng z)) (b := b)).symm.trans k
            have kk : (rs.any (inRng z) == b) = false := by simpa using k2
            exact ⟨rfl, some (.int m), some (.bl b), some (.ref l3), some (.int z), some (.bl (rs.any (inRng z))), o9, o10, by rw [fin, kk, Bool.and_false]; rfl⟩
          · have k2 := (bl_ne (a := rs.any (inRng z)) (b := b)).symm.trans (Bool.eq_false_iff.mpr k)
            have kk : (rs.any (inRng z) == b) = true := by simpa using k2
            exact ⟨rfl, some (.int m), some (.bl b), some (.ref l3), some (.int z), some (.bl (rs.any (inRng z))), o9, o10, by rw [fin, kk, Bool.and_true]⟩
      · have c' : ¬ 0 < m := of_decide_eq_false (Bool.eq_false_iff.mpr c)
        obtain ⟨z, ez⟩ : ∃ z, z = n := ⟨_, rfl⟩
        have hz : modV (m, b, rs) n = z := (if_neg c').trans ez.symm
        refine ⟨_, rfl, l3, rfl, ⟨_, SqL.of hl3⟩, for_list (K := K) (a := l3) (xs := us) (fun k σ H3 => H3 = H2 ∧ (∃ o9 o10 : Option V, σ = [some (.ref l), some (.int n), some (.ref l2), some (.bl ((row.take j).all (relH n))), some (.int m), some (.bl b), some (.ref l3), some (.int z), some (.bl ((rs.take k).any (inRng z))), o9, o10]))
          ⟨rfl, o9, o10, by rw [ez]; rfl⟩ (fun i σ H3 _ ⟨e, _⟩ => by rw [e]; exact SqL.of hl3) ?_ ?_⟩
        · rintro k u σ H3 hu ⟨rfl, o9, o10, rfl⟩
          obtain ⟨g, hg, pp, rfl, hpp⟩ := Paired.get pr3 hu
          have hit : ∀ kk : Bool, kk = inRng z g → ((rs.take (k + 1)).any (inRng z)) = ((rs.take k).any (inRng z) || kk) := fun kk e => by rw [any_take hg, e]
          refine ⟨pp, _, rfl, SqT.of hpp, rfl, _, _, rfl, _, _, rfl, rfl, ?_⟩
          refine ⟨_, rfl, _, rfl, _, _, rfl, rfl, _, rfl, ?_⟩
          refine ite2 (fun c1 => ?_) (fun c1 => ?_)
          · refine ⟨_, rfl, _, _, rfl, rfl, _, rfl, ?_⟩
            have e : decide (z ≤ g.2) = inRng z g := by unfold inRng; rw [c1, Bool.true_and]
            refine ite2 (fun c2 => ?_) (fun c2 => ?_)
            · exact ⟨rfl, some (.int g.1), some (.int g.2), by rw [hit true (c2.symm.trans e), Bool.or_true]; rfl⟩
            · exact ⟨rfl, some (.int g.1), some (.int g.2), by rw [hit false ((Bool.eq_false_iff.mpr c2).symm.trans e), Bool.or_false]; rfl⟩
          · have e : false = inRng z g := by unfold inRng; rw [Bool.eq_false_iff.mpr c1, Bool.false_and]
            refine ⟨_, rfl, ite2 (fun k => Bool.noConfusion k) fun _ => ?_⟩
            exact ⟨rfl, some (.int g.1), some (.int g.2), by rw [hit false e, Bool.or_false]; rfl⟩
        · rintro σ H3 ⟨rfl, o9, o10, rfl⟩
          rw [Paired.len pr3, List.take_length]
          refine ⟨_, rfl, _, rfl, rfl, _, rfl, ?_⟩
          have er : relH n (m, b, rs) = (rs.any (inRng z) == b) := by
            unfold relH
            rw [hz]
          have fin : (row.take (j + 1)).all (relH n) = ((row.take j).all (relH n) && (rs.any (inRng z) == b)) := by rw [all_take hr', er]
          refine ite2 (fun k => ?_) (fun k => ?_)
          · have k2 := (bl_ne (a := rs.any (inRng z)) (b := b)).symm.trans k
            have kk : (rs.any (inRng z) == b) = false := by simpa using k2
            exact ⟨rfl, some (.int m), some (.bl b), some (.ref l3), some (.int z), some (.bl (rs.any (inRng z))), o9, o10, by rw [fin, kk, Bool.and_false]; rfl⟩
          · have k2 := (bl_ne (a := rs.any (inRng z)) (b := b)).symm.trans (Bool.eq_false_iff.mpr k)
            have kk : (rs.any (inRng z) == b) = true := by simpa using k2
            exact ⟨rfl, some (.int m), some (.bl b), some (.ref l3), some (.int z), some (.bl (rs.any (inRng z))), o9, o10, by rw [fin, kk, Bool.and_true]⟩
    · rintro σ H2 ⟨rfl, o4, o5, o6, o7, o8, o9, o10, rfl⟩
      rw [Paired.len pr2, List.take_length]
      refine ⟨_, rfl, _, rfl, ?_⟩
      refine ite2 (fun k => ?_) (fun k => ?_)
      · have e := any_hit (f := rowH n) hrow k
        unfold condH at q
        rw [e] at q
        exact q
      · refine ⟨rfl, ⟨_, _, _, _, _, _, _, _, _, rfl⟩, ?_⟩
        rw [any_take hrow, hno]
        exact Bool.eq_false_iff.mpr k
  · rintro σ H' ⟨rfl, _, hno⟩
    rw [Paired.len pr, List.take_length] at hno
    unfold condH at q
    rw [hno] at q
    exact q
def spLCat : Sp := fun vs H Q _ => ∃ (v : V) (rs : Rules) (n : Int), vs = [v, .int n] ∧ IsRules H v rs ∧ Q (.str (catOf rs n)) H
abbrev nLCat : List Str := ["_law_rules_here", "_law_number", "_law_category_here", "_law_condition_here"]
abbrev pLCat : List Str := ["_law_rules_here", "_law_number"]
theorem scLCat : FnScope nLCat pLCat (defScope sLCat) := ⟨rfl, rfl, rfl, by decide +kernel, rfl, by decide +kernel, by decide +kernel⟩
theorem ok_lcat {f : Addr} {fd : FuncData} (F : Fun K "_law_category" "_law_category" sLCat f fd) (G : Dn P w K mg base CX0 "_law_holds" ["_law_condition_here", "_law_number"] 1 spHolds) : FnOk P w K mg base CX0 2 f fd pLCat spLCat := by
  refine F.ok scLCat (fun vs H Q E h => ?_) (fun cdv A outer s H vs Q E hr h => ?_)
  · obtain ⟨v, rs, n, rfl, _⟩ := h
    rfl
  obtain ⟨v, rs, n, rfl, ⟨l, rvs, rfl, hl, pr⟩, q⟩ := h
  have nd := scLCat.nd
  refine ⟨_, pss_cons (ps_if (pt_cmpR op_ge (pv 1) pe_int (nomark _)) (pss_one (ps_for PassesOwn.never rfl (pi_list (pv 0)) (pg_tup (by rfl) (pgs_cons (pg_name (i := 2) nd rfl (Or.inl rfl)) (pgs_cons (pg_name (i := 3) nd rfl (Or.inl rfl)) pgs_nil)))
      (pss_one (ps_if (pt_val (pe_dn G hr rfl (pa_cons (pv 3) (pa_cons (pv 1) pa_nil)))) (pss_one (ps_ret (pv 2))) pss_nil)))) pss_nil)
    (pss_one (ps_ret pe_str)), ?_⟩
  refine ⟨_, rfl, _, _, rfl, rfl, _, rfl, ?_⟩
  refine ite2 (fun c => ?_) (fun c => ?_)
  · have c' : 0 ≤ n := of_decide_eq_true c
    refine ⟨_, rfl, l, rfl, ⟨_, SqL.of hl⟩, for_list (K := K) (a := l) (xs := rvs) (fun i σ H' => ∃ v2 v3 : Option V, σ = [some (.ref l), some (.int n), v2, v3] ∧ H' = H ∧ firstR n rs = firstR n (rs.drop i))
      ⟨none, none, rfl, rfl, rfl⟩ (fun i σ H' _ ⟨_, _, _, e, _⟩ => by rw [e]; exact SqL.of hl) ?_ ?_⟩
    · rintro i x σ H' hx ⟨v2, v3, rfl, rfl, e⟩
      obtain ⟨r, hr', p2, w2, rfl, hp2, hc⟩ := Paired.get pr hx
      refine ⟨p2, _, rfl, SqT.of hp2, rfl, _, _, rfl, _, _, rfl, rfl, ?_⟩
      refine ⟨_, rfl, _, rfl, w2, r.2, n, rfl, hc, _, rfl, ?_⟩
      rw [drop_at hr'] at e
      refine ite2 (fun k => ?_) (fun k => ?_)
      · have e2 : catOf rs n = r.1 := by
          unfold catOf
          rw [if_pos (show n ≥ 0 from c'), e]
          exact if_pos k
        rw [e2] at q
        exact ⟨_, rfl, q⟩
      · exact ⟨_, _, rfl, rfl, e.trans (if_neg k)⟩
    · rintro σ H' ⟨v2, v3, rfl, rfl, e⟩
      have e2 : catOf rs n = "other" := by
        unfold catOf
        rw [if_pos (show n ≥ 0 from c'), e, Paired.len pr, List.drop_length]
        rfl
      rw [e2] at q
      exact q
  · have c' : ¬ 0 ≤ n := of_decide_eq_false (Bool.eq_false_iff.mpr c)
    have e2 : catOf rs n = "other" := if_neg c'
    rw [e2] at q
    exact q
end
end MW

set_option Elab.async false
set_option linter.all false
set_option maxRecDepth 100000
set_option maxHeartbeats 2000000
/-! W3: argument_of, selected, number_of, counted. -/
namespace MW
open PySem PySem.Spec PyProof.Rows L2
open GA (Tk TG CodeT BM GScp gscp_by pe_anyG pe_allG gw_list tGen)
abbrev sArg : Stmt := top 18
abbrev sSel : Stmt := top 19
abbrev sCnt : Stmt := top 20
abbrev sNum : Stmt := top 21
/-- the own errors' classes and __init__ s -/
structure Er (P : Program) (K : PySem.W.Frag) (mg : Str → Option Value) (C1 C2 i1 i2 : Addr) : Prop where
  miss : PySem.ErrX.ErrTxt P K mg "MissingArgument" "MissingArgument.__init__" C1 i1
  wrong : PySem.ErrX.ErrTxt P K mg "WrongArgument" "WrongArgument.__init__" C2 i2
/-- an error of the class C with the name n leaves -/
def Ee (C : Addr) (n : Str) (H : Hp) (E : XK) : Prop := ∀ (d : Addr) (H' : Hp), Tk H H' → H d = none → H' d = some (.xd [("name", .str n)]) → E (.ref C) (some d) H'
theorem Ee.new {C d : Addr} {n : Str} {H : Hp} {E : XK} (e : Ee C n H E) (hd : H d = none) : E (.ref C) (some d) (upd H d (.xd [("name", .str n)])) := e d _ (Tk.new hd) hd upd_same
theorem Ee.tk {C : Addr} {n : Str} {H H1 : Hp} {E : XK} (e : Ee C n H E) (t : Tk H H1) : Ee C n H1 E := fun d H' t' hd hx => e d H' (t.trans t') (t.free d hd) hx
section
variable {P : Program} {w : World} {K : PySem.W.Frag} {mg : Str → Option Value} {base : Heap}
/-! ### argument_of -/
def spArg (C1 : Addr) : Sp := fun vs H Q E => ∃ (d : Addr) (args : List (Key × V)) (n : Str), vs = [.ref d, .str n] ∧ H d = some (.dK args) ∧ n.length ≤ 100 ∧ (∀ v, valV args (.inr n) = some v → Q v H) ∧ (valV args (.inr n) = none → Ee C1 n H E)
theorem scArg : FnScope ["arguments", "name"] ["arguments", "name"] (defScope sArg) := ⟨rfl, rfl, rfl, by decide +kernel, rfl, by decide +kernel, by decide +kernel⟩
theorem ok_arg {f C1 C2 i1 i2 : Addr} {fd : FuncData} (F : Fun K "argument_of" "argument_of" sArg f fd) (R : Er P K mg C1 C2 i1 i2) : FnOk P w K mg base (L2.CX P w) 3 f fd ["arguments", "name"] (spArg C1) := by
  refine F.okX scArg (fun vs H Q E h => ?_) (fun cdv A outer s H vs Q E hr h => ?_)
  · obtain ⟨d, args, n, rfl, _⟩ := h
    rfl
  obtain ⟨d, args, n, rfl, hd, hn, q1, q2⟩ := h
  have hu := hu_of hr
  refine ⟨_, pss_cons (ps_if (pt_cmp (pc_dnotin hu (pv 1) (pv 0))) (pss_one (ps_raiseErr rfl R.miss hr (takes_of rfl rfl rfl rfl) (pa_cons (pv 1) pa_nil) rfl (by decide))) pss_nil)
    (pss_one (ps_ret (pe_dget hu (pv 0) (pv 1) (fun _ _ => rfl)))), ?_⟩
  refine ⟨_, rfl, _, rfl, d, _, rfl, DGet.k (k := Sum.inr n) hd, _, rfl, ?_⟩
  cases e : valV args (.inr n) with
  | none => exact ⟨_, rfl, n, rfl, hn, fun dd hdd => (q2 e).new hdd⟩
  | some v => exact ⟨_, rfl, _, rfl, d, v, rfl, e ▸ DGet.k (k := Sum.inr n) hd, q1 v e⟩
/-! ### selected -/
def spSel (C1 C2 : Addr) : Sp := fun vs H Q E => ∃ (p d c : Addr) (args kvs : List (Key × V)) (n : Str) (ps : List Addr) (wv : V), vs = [.ref p, .ref d] ∧ H p = some (.tup [.str "select", .str n, .ref c, wv]) ∧ H d = some (.dK args) ∧ AOk args ∧ n.length ≤ 100 ∧
  H c = some (.lst (ps.map V.ref)) ∧ Paired (fun p kv => H p = some (.tup [kV kv.1, kv.2])) ps kvs ∧ (kvs.map (·.1)).Nodup ∧
  (∀ wd, valV args (.inr n) = some (.str wd) → ∀ H', Tk H H' → Q ((lk kvs (.inr wd)).getD wv) H') ∧ (∀ i, valV args (.inr n) = some (.int i) → Ee C2 n H E) ∧ (valV args (.inr n) = none → Ee C1 n H E)
theorem scSel : FnScope ["node", "arguments", "word"] ["node", "arguments"] (defScope sSel) := ⟨rfl, rfl, rfl, by decide +kernel, rfl, by decide +kernel, by decide +kernel⟩
theorem paired_sq {H : Hp} {ps : List Addr} {kvs : List (Key × V)} (h : Paired (fun p kv => H p = some (.tup [kV kv.1, kv.2])) ps kvs) : Paired (fun p (kv : Key × V) => SqT K H p [kV kv.1, kv.2]) ps kvs := Paired.mapP h fun _ _ q => SqT.of q
theorem ok_sel {f C1 C2 i1 i2 : Addr} {fd : FuncData} (F : Fun K "selected" "selected" sSel f fd) (B : Bt mg) (R : Er P K mg C1 C2 i1 i2) (GA : Dn P w K mg base (L2.CX P w) "argument_of" ["arguments", "name"] 3 (spArg C1))
    (GC : Dn P w K mg base CX0 "cases_of" ["node"] 1 spCases) (GO : Dn P w K mg base CX0 "other_of" ["node"] 1 spOther) : FnOk P w K mg base (L2.CX P w) 4 f fd ["node", "arguments"] (spSel C1 C2) := by
  refine F.okX scSel (fun vs H Q E h => ?_) (fun cdv A outer s H vs Q E hr h => ?_)
  · obtain ⟨p, d, c, args, kvs, n, ps, wv, rfl, _⟩ := h
    rfl
  obtain ⟨p, d, c, args, kvs, n, ps, wv, rfl, hp, hd, ha, hn, hc, pr, nd', q1, q2, q3⟩ := h
  have nd := scSel.nd
  have hu := hu_of hr
  have hr1 := hr.mono (j := 1) (by decide)
  refine ⟨_, pss_cons (ps_set (i := 2) nd rfl (Or.inl rfl) (pe_dnS GA hr rfl (fun σ => passAt (takes_of rfl rfl rfl rfl) σ) (pa_cons (pv 1) (pa_cons (pe_ix ix_tup (pv 0) pe_int (fun _ _ => rfl)) pa_nil))))
    (pss_cons (ps_if (pt_not (pt_val (pe_callB call_isi rfl B.isi (by decide +kernel) (pa_cons (pv 2) (pa_cons (pe_bltn (v := .ty "str") rfl B.str (by decide +kernel) rfl) pa_nil)))))
      (pss_one (ps_raiseErr rfl R.wrong hr (takes_of rfl rfl rfl rfl) (pa_cons (pe_ix ix_tup (pv 0) pe_int (fun _ _ => rfl)) pa_nil) rfl (by decide))) pss_nil)
    (pss_one (ps_ret (pe_dget2 hu (pe_callTy (call_dictP rfl) rfl B.dict (by decide +kernel) (pa_cons (pe_dn GC hr1 rfl (pa_cons (pv 0) pa_nil)) pa_nil)) (pv 2) (pe_dn GO hr1 rfl (pa_cons (pv 0) pa_nil)) ⟨rfl, rfl, rfl, rfl⟩)))), ?_⟩
  refine ⟨_, rfl, _, rfl, p, _, _, _, rfl, rfl, SqT.of hp, (by rfl), d, args, n, rfl, hd, hn, fun v ev => ?_, q3⟩
  rcases ha _ _ ev with ⟨i, rfl, _⟩ | ⟨wd, rfl, _⟩
  · refine ⟨_, rfl, _, _, _, _, false, rfl, ClsV.ty "str", .base (TyOf.int i), kit_ty (by decide +kernel), _, rfl, ?_⟩
    refine ite2 (fun _ => ?_) (fun z => absurd rfl z)
    exact ⟨_, rfl, p, _, _, _, rfl, rfl, SqT.of hp, (by rfl), n, rfl, hn, fun dd hdd => (q2 i ev).new hdd⟩
  · refine ⟨_, rfl, _, _, _, _, true, rfl, ClsV.ty "str", .base (TyOf.str wd), kit_ty (by decide +kernel), _, rfl, ?_⟩
    refine ite2 (fun z => Bool.noConfusion z) (fun _ => ?_)
    refine ⟨_, rfl, p, _, _, rfl, hp, (by rfl), c, ps, kvs, rfl, SqL.of hc, paired_sq pr, fun dd hdd => ?_⟩
    have t : Tk H (upd H dd (.dK (mergeK [] kvs))) := Tk.new hdd
    refine ⟨dd, rfl, .inl ⟨_, .inl upd_same⟩, _, rfl, _, rfl, p, _, _, rfl, (Mn.tk t).tup hp, (by rfl), _, DGet.k (k := Sum.inr wd) upd_same, ?_⟩
    rw [merge_nil nd', lk_valV]
    exact q1 wd ev _ (by rw [← merge_nil nd']; rw [merge_nil nd'] at t ⊢; exact t)
/-! ### number_of -/
def spNum (C1 C2 : Addr) : Sp := fun vs H Q E => ∃ (p d : Addr) (args : List (Key × V)) (n : Str) (k0 : V) (rest : List V), vs = [.ref p, .ref d] ∧ H p = some (.tup (k0 :: .str n :: rest)) ∧ H d = some (.dK args) ∧ AOk args ∧ n.length ≤ 100 ∧
  (∀ i, valV args (.inr n) = some (.int i) → Q (.int i) H) ∧ (∀ wd, valV args (.inr n) = some (.str wd) → Ee C2 n H E) ∧ (valV args (.inr n) = none → Ee C1 n H E)
theorem scNum : FnScope ["node", "arguments", "number"] ["node", "arguments"] (defScope sNum) := ⟨rfl, rfl, rfl, by decide +kernel, rfl, by decide +kernel, by decide +kernel⟩
theorem ok_num {f C1 C2 i1 i2 : Addr} {fd : FuncData} (F : Fun K "number_of" "number_of" sNum f fd) (B : Bt mg) (R : Er P K mg C1 C2 i1 i2) (GA : Dn P w K mg base (L2.CX P w) "argument_of" ["arguments", "name"] 3 (spArg C1)) :
    FnOk P w K mg base (L2.CX P w) 4 f fd ["node", "arguments"] (spNum C1 C2) := by
  refine F.okX scNum (fun vs H Q E h => ?_) (fun cdv A outer s H vs Q E hr h => ?_)
  · obtain ⟨p, d, args, n, k0, rest, rfl, _⟩ := h
    rfl
  obtain ⟨p, d, args, n, k0, rest, rfl, hp, hd, ha, hn, q1, q2, q3⟩ := h
  have nd := scNum.nd
  refine ⟨_, pss_cons (ps_set (i := 2) nd rfl (Or.inl rfl) (pe_dnS GA hr rfl (fun σ => passAt (takes_of rfl rfl rfl rfl) σ) (pa_cons (pv 1) (pa_cons (pe_ix ix_tup (pv 0) pe_int (fun _ _ => rfl)) pa_nil))))
    (pss_cons (ps_if (pt_val (pe_callB call_isi rfl B.isi (by decide +kernel) (pa_cons (pv 2) (pa_cons (pe_bltn (v := .ty "str") rfl B.str (by decide +kernel) rfl) pa_nil))))
      (pss_one (ps_raiseErr rfl R.wrong hr (takes_of rfl rfl rfl rfl) (pa_cons (pe_ix ix_tup (pv 0) pe_int (fun _ _ => rfl)) pa_nil) rfl (by decide))) pss_nil)
    (pss_one (ps_ret (pv 2)))), ?_⟩
  have e1 : atI (k0 :: .str n :: rest) 1 = some (.str n) := atI_nat (j := 1) rfl
  refine ⟨_, rfl, _, rfl, p, _, _, _, rfl, rfl, SqT.of hp, e1, d, args, n, rfl, hd, hn, fun v ev => ?_, q3⟩
  rcases ha _ _ ev with ⟨i, rfl, _⟩ | ⟨wd, rfl, _⟩
  · refine ⟨_, rfl, _, _, _, _, false, rfl, ClsV.ty "str", .base (TyOf.int i), kit_ty (by decide +kernel), _, rfl, ?_⟩
    refine ite2 (fun z => Bool.noConfusion z) (fun _ => ?_)
    exact ⟨_, rfl, q1 i ev⟩
  · refine ⟨_, rfl, _, _, _, _, true, rfl, ClsV.ty "str", .base (TyOf.str wd), kit_ty (by decide +kernel), _, rfl, ?_⟩
    refine ite2 (fun _ => ?_) (fun z => absurd rfl z)
    exact ⟨_, rfl, p, _, _, _, rfl, rfl, SqT.of hp, e1, n, rfl, hn, fun dd hdd => (q2 wd ev).new hdd⟩
/-! ### counted -/
def spCnt (C PR PC : Addr) : Sp := fun vs H Q _ => ∃ (p c : Addr) (lv : V) (kvs : List (Key × V)) (n : Str) (off i : Int) (ps : List Addr) (wv : V) (rs : Rules), vs = [.ref p, lv, .int i] ∧ H p = some (.tup [.str "plural", .str n, .int off, .ref c, wv]) ∧ IsLang C H lv rs ∧ TG 1 H PR ∧ TG 2 H PC ∧
  H c = some (.lst (ps.map V.ref)) ∧ Paired (fun p kv => H p = some (.tup [kV kv.1, kv.2])) ps kvs ∧ (kvs.map (·.1)).Nodup ∧ ∀ H', Tk H H' → Q (pick kvs wv i (catOf rs (i - off))) H'
theorem scCnt : FnScope ["node", "language", "number", "cases"] ["node", "language", "number"] (defScope sCnt) := ⟨rfl, rfl, rfl, by decide +kernel, rfl, by decide +kernel, by decide +kernel⟩
theorem ok_cnt {f C PR PC : Addr} {fd : FuncData} (F : Fun K "counted" "counted" sCnt f fd) (B : Bt mg) (GT : Dn P w K mg base CX0 "category_of" ["language", "number"] 7 (spCat C PR PC))
    (GC : Dn P w K mg base CX0 "cases_of" ["node"] 1 spCases) (GO : Dn P w K mg base CX0 "other_of" ["node"] 1 spOther) : FnOk P w K mg base CX0 8 f fd ["node", "language", "number"] (spCnt C PR PC) := by
  refine F.ok scCnt (fun vs H Q E h => ?_) (fun cdv A outer s H vs Q E hr h => ?_)
  · obtain ⟨p, c, lv, kvs, n, off, i, ps, wv, rs, rfl, _⟩ := h
    rfl
  obtain ⟨p, c, lv, kvs, n, off, i, ps, wv, rs, rfl, hp, hL, t1, t2, hc, pr, nd', q⟩ := h
  have nd := scCnt.nd
  have hu := hu_of hr
  have hr1 := hr.mono (j := 1) (by decide)
  refine ⟨_, pss_cons (ps_set (i := 3) nd rfl (Or.inl rfl) (pe_callTy (call_dictP rfl) rfl B.dict (by decide +kernel) (pa_cons (pe_dn GC hr1 rfl (pa_cons (pv 0) pa_nil)) pa_nil)))
    (pss_cons (ps_if (pt_cmp (pc_din hu (pv 2) (pv 3))) (pss_one (ps_ret (pe_dget hu (pv 3) (pv 2) (fun _ _ => rfl)))) pss_nil)
    (pss_one (ps_ret (pe_dget2 hu (pv 3) (pe_dn GT hr rfl (pa_cons (pv 1) (pa_cons (pe_op op_sub (pv 2) (pe_ix ix_tup (pv 0) pe_int (fun _ _ => rfl))) pa_nil))) (pe_dn GO hr1 rfl (pa_cons (pv 0) pa_nil)) ⟨rfl, rfl, rfl, rfl⟩)))), ?_⟩
  refine ⟨_, rfl, p, _, _, rfl, hp, (by rfl), c, ps, kvs, rfl, SqL.of hc, paired_sq pr, fun dd hdd => ?_⟩
  rw [merge_nil nd']
  have t : Tk H (upd H dd (.dK kvs)) := Tk.new hdd
  refine ⟨_, rfl, _, rfl, dd, _, rfl, DGet.k (k := Sum.inl i) upd_same, _, rfl, ?_⟩
  have z := fun (H' : Hp) (t' : Tk H H') => q H' t'
  unfold pick at z
  rw [← lk_valV, ← lk_valV] at z
  cases e : valV kvs (.inl i) with
  | some v =>
    rw [e] at z
    exact ⟨_, rfl, _, rfl, dd, v, rfl, e ▸ DGet.k (k := Sum.inl i) upd_same, z _ t⟩
  | none =>
    rw [e, Option.none_or] at z
    refine ⟨_, rfl, dd, rfl, .inl ⟨_, .inl upd_same⟩, _, rfl, _, rfl, _, rfl, p, _, _, _, rfl, rfl, SqT.of ((Mn.tk t).tup hp), (by rfl), _, _, rfl, rfl, lv, rs, i - off, rfl, hL.mn (Mn.tk t), t.tg _ _ t1, t.tg _ _ t2, fun H2 t3 => ?_⟩
    exact ⟨_, rfl, p, _, _, rfl, (Mn.tk (t.trans t3)).tup hp, (by rfl), _, DGet.k (k := Sum.inr (catOf rs (i - off))) ((Mn.tk t3).dK upd_same), z H2 (t.trans t3)⟩
end
end MW

set_option Elab.async false
set_option linter.all false
set_option maxRecDepth 100000
set_option maxHeartbeats 2000000
/-! W4: shown_node, shown_message, shown. -/
namespace MW
open PySem PySem.Spec PyProof.Rows L2
open GA (Tk TG CodeT BM GScp gscp_by pe_anyG pe_allG gw_list tGen)
abbrev sNode : Stmt := top 22
abbrev sMsg : Stmt := top 23
abbrev sShown : Stmt := top 24
def leftV : Option Int → V
  | some i => .int i
  | none => .non
/-- the ways out by what is shown -/
def Ways (C1 C2 : Addr) (H : Hp) (r : Res) (Q : VK) (E : XK) : Prop := (∀ s, r = .ok s → ∀ H', Tk H H' → Q (.str s) H') ∧ (∀ n, r = .er false n → Ee C1 n H E) ∧ (∀ n, r = .er true n → Ee C2 n H E)
theorem Ways.tk {C1 C2 : Addr} {H H1 : Hp} {r : Res} {Q : VK} {E : XK} (h : Ways C1 C2 H r Q E) (t : Tk H H1) : Ways C1 C2 H1 r Q E := ⟨fun s e H' t' => h.1 s e H' (t.trans t'), fun n e => (h.2.1 n e).tk t, fun n e => (h.2.2 n e).tk t⟩
/-- what is asked of a call of the shower -/
structure Sh (C PR PC : Addr) (H : Hp) (lv : V) (rs : Rules) (dd : Addr) (args : List (Key × V)) (left : Option Int) (b : Bool) : Prop where
  lang : IsLang C H lv rs
  dict : H dd = some (.dK args)
  ok : AOk args
  lok : LOk left
  lb : b = true → ∃ i, left = some i
  t1 : TG 1 H PR
  t2 : TG 2 H PC
theorem Sh.tk {C PR PC : Addr} {H H' : Hp} {lv : V} {rs : Rules} {dd : Addr} {args : List (Key × V)} {left : Option Int} {b : Bool} (h : Sh C PR PC H lv rs dd args left b) (t : Tk H H') : Sh C PR PC H' lv rs dd args left b :=
  ⟨h.lang.mn (Mn.tk t), (Mn.tk t).dK h.dict, h.ok, h.lok, h.lb, t.tg _ _ h.t1, t.tg _ _ h.t2⟩
def spNode (C C1 C2 PR PC : Addr) (d : Nat) : Sp := fun vs H Q E => ∃ (v : V) (nd : Nd (Msg d)) (lv : V) (rs : Rules) (dd : Addr) (args : List (Key × V)) (left : Option Int) (b : Bool), vs = [v, lv, .ref dd, leftV left] ∧ IsNd (IsM d H) H v nd ∧ Sh C PR PC H lv rs dd args left b ∧ WfN (Wf d) b nd ∧
  Ways C1 C2 H (showN (showM rs args d) rs args left nd) Q E
def spMsg (C C1 C2 PR PC : Addr) (d : Nat) : Sp := fun vs H Q E => ∃ (v : V) (m : Msg d) (lv : V) (rs : Rules) (dd : Addr) (args : List (Key × V)) (left : Option Int) (b : Bool), vs = [v, lv, .ref dd, leftV left] ∧ IsM d H v m ∧ Sh C PR PC H lv rs dd args left b ∧ Wf d b m ∧ d ≤ 3 ∧
  Ways C1 C2 H (showM rs args d m left) Q E
abbrev nNode : List Str := ["node", "language", "arguments", "left", "number"]
abbrev pNode : List Str := ["node", "language", "arguments", "left"]
abbrev nMsg : List Str := ["message", "language", "arguments", "left", "node"]
abbrev pMsg : List Str := ["message", "language", "arguments", "left"]
theorem scNode : FnScope nNode pNode (defScope sNode) := ⟨rfl, rfl, rfl, by decide +kernel, rfl, by decide +kernel, by decide +kernel⟩
theorem scMsg : FnScope nMsg pMsg (defScope sMsg) := ⟨rfl, rfl, rfl, by decide +kernel, rfl, by decide +kernel, by decide +kernel⟩
section
variable {P : Program} {w : World} {K : PySem.W.Frag} {mg : Str → Option Value} {base : Heap}
theorem nodup_cs {M : Type} {R : V → M → Prop} {kvs : List (Key × V)} {cs : List (Key × M)} (p : Paired (fun kv km => kv.1 = km.1 ∧ R kv.2 km.2) kvs cs) (h : (cs.map (·.1)).Nodup) : (kvs.map (·.1)).Nodup := by
  rw [keys_rel p]
  exact h
theorem ne_str {a b : Str} (h : ¬ a = b) : ¬ decide (V.str a = V.str b) = true := fun z => h (V.str.inj (of_decide_eq_true z))
theorem kd1 : ¬ (("show" : Str) = "text") := by decide +kernel
theorem kd2 : ¬ (("number" : Str) = "text") := by decide +kernel
theorem kd3 : ¬ (("number" : Str) = "show") := by decide +kernel
theorem kd4 : ¬ (("select" : Str) = "text") := by decide +kernel
theorem kd5 : ¬ (("select" : Str) = "show") := by decide +kernel
theorem kd6 : ¬ (("select" : Str) = "number") := by decide +kernel
theorem kd7 : ¬ (("plural" : Str) = "text") := by decide +kernel
theorem kd8 : ¬ (("plural" : Str) = "show") := by decide +kernel
theorem kd9 : ¬ (("plural" : Str) = "number") := by decide +kernel
theorem kd10 : ¬ (("plural" : Str) = "select") := by decide +kernel
theorem ok_node {f C C1 C2 i1 i2 PR PC : Addr} {fd : FuncData} {d k : Nat} (hk : 8 ≤ k) (hd3 : d ≤ 3) (F : Fun K "shown_node" "shown_node" sNode f fd) (B : Bt mg) (T : Lc K mg C) (R : Er P K mg C1 C2 i1 i2) (GA : Dn P w K mg base (L2.CX P w) "argument_of" ["arguments", "name"] 3 (spArg C1))
    (GS : Dn P w K mg base (L2.CX P w) "selected" ["node", "arguments"] 4 (spSel C1 C2)) (GN : Dn P w K mg base (L2.CX P w) "number_of" ["node", "arguments"] 4 (spNum C1 C2)) (GC : Dn P w K mg base CX0 "counted" ["node", "language", "number"] 8 (spCnt C PR PC))
    (GM : Dn P w K mg base (L2.CX P w) "shown_message" pMsg k (spMsg C C1 C2 PR PC d)) : FnOk P w K mg base (L2.CX P w) (k + 1) f fd pNode (spNode C C1 C2 PR PC d) := by
  refine F.okX scNode (fun vs H Q E h => ?_) (fun cdv A outer s H vs Q E hr h => ?_)
  · obtain ⟨v, nd, lv, rs, dd, args, left, b, rfl, _⟩ := h
    rfl
  obtain ⟨v, nd, lv, rs, dd, args, left, b, rfl, hnd, hs, hw, q⟩ := h
  have nds := scNode.nd
  have hr3 := hr.mono (j := 3) (by omega)
  have hr4 := hr.mono (j := 4) (by omega)
  have hr8 := hr.mono (j := 8) hk
  obtain ⟨tT, hT⟩ := T.text
  obtain ⟨tS, hS⟩ := T.shw
  obtain ⟨tN, hN⟩ := T.num
  obtain ⟨tE, hE⟩ := T.sel
  refine ⟨_, pss_cons (ps_if (pt_cmpR op_eq (pe_ix ix_tup (pv 0) pe_int (fun _ _ => rfl)) (pe_glob (v := .str "text") rfl hT ⟨tT, rfl⟩) (nomark _)) (pss_one (ps_ret (pe_ix ix_tup (pv 0) pe_int (fun _ _ => rfl)))) pss_nil)
    (pss_cons (ps_if (pt_cmpR op_eq (pe_ix ix_tup (pv 0) pe_int (fun _ _ => rfl)) (pe_glob (v := .str "show") rfl hS ⟨tS, rfl⟩) (nomark _))
      (pss_one (ps_ret (pe_callTy call_strV rfl B.str (by decide +kernel) (pa_cons (pe_dnS GA hr3 rfl (fun σ => passAt (takes_of rfl rfl rfl rfl) σ) (pa_cons (pv 2) (pa_cons (pe_ix ix_tup (pv 0) pe_int (fun _ _ => rfl)) pa_nil))) pa_nil)))) pss_nil)
    (pss_cons (ps_if (pt_cmpR op_eq (pe_ix ix_tup (pv 0) pe_int (fun _ _ => rfl)) (pe_glob (v := .str "number") rfl hN ⟨tN, rfl⟩) (nomark _)) (pss_one (ps_ret (pe_callTy call_strV rfl B.str (by decide +kernel) (pa_cons (pv 3) pa_nil)))) pss_nil)
    (pss_cons (ps_if (pt_cmpR op_eq (pe_ix ix_tup (pv 0) pe_int (fun _ _ => rfl)) (pe_glob (v := .str "select") rfl hE ⟨tE, rfl⟩) (nomark _))
      (pss_one (ps_ret (pe_dnS GM hr rfl (fun σ => passAt (takes_of rfl rfl rfl rfl) σ) (pa_cons (pe_dnS GS hr4 rfl (fun σ => passAt (takes_of rfl rfl rfl rfl) σ) (pa_cons (pv 0) (pa_cons (pv 2) pa_nil))) (pa_cons (pv 1) (pa_cons (pv 2) (pa_cons (pv 3) pa_nil))))))) pss_nil)
    (pss_cons (ps_set (i := 4) nds rfl (Or.inl rfl) (pe_dnS GN hr4 rfl (fun σ => passAt (takes_of rfl rfl rfl rfl) σ) (pa_cons (pv 0) (pa_cons (pv 2) pa_nil))))
    (pss_one (ps_ret (pe_dnS GM hr rfl (fun σ => passAt (takes_of rfl rfl rfl rfl) σ) (pa_cons (pe_dn GC hr8 rfl (pa_cons (pv 0) (pa_cons (pv 1) (pa_cons (pv 4) pa_nil)))) (pa_cons (pv 1) (pa_cons (pv 2) (pa_cons (pe_op op_sub (pv 4) (pe_ix ix_tup (pv 0) pe_int (fun _ _ => rfl))) pa_nil))))))))))), ?_⟩
  cases nd with
  | txt s =>
    obtain ⟨p, rfl, hp⟩ := hnd
    refine ⟨_, rfl, p, _, _, _, rfl, rfl, SqT.of hp, (by rfl), rfl, _, rfl, ite2 (fun _ => ?_) (fun z => absurd (decide_eq_true rfl) z)⟩
    exact ⟨_, rfl, p, _, _, _, rfl, rfl, SqT.of hp, (by rfl), q.1 s rfl H (Tk.refl _)⟩
  | shw n =>
    obtain ⟨p, rfl, hp⟩ := hnd
    refine ⟨_, rfl, p, _, _, _, rfl, rfl, SqT.of hp, (by rfl), rfl, _, rfl, ite2 (fun z => absurd z (ne_str kd1)) (fun _ => ?_)⟩
    refine ⟨_, rfl, p, _, _, _, rfl, rfl, SqT.of hp, (by rfl), rfl, _, rfl, ite2 (fun _ => ?_) (fun z => absurd (decide_eq_true rfl) z)⟩
    refine ⟨_, rfl, _, rfl, p, _, _, _, rfl, rfl, SqT.of hp, (by rfl), dd, args, n, rfl, hs.dict, Nat.le_trans hw.1 (by decide), fun v ev => ?_, fun ev => ?_⟩
    · refine ⟨v, rfl, ?_, q.1 _ (shw_at ev) H (Tk.refl _)⟩
      rcases hs.ok _ _ ev with ⟨i, rfl, hi⟩ | ⟨z, rfl, _⟩
      · exact .inl ⟨i, rfl, log_small (Nat.lt_of_lt_of_le hi (by decide))⟩
      · exact .inr ⟨z, rfl⟩
    · exact q.2.1 n (shw_no ev)
  | num =>
    obtain ⟨p, rfl, hp⟩ := hnd
    obtain ⟨i, rfl⟩ := hs.lb hw
    refine ⟨_, rfl, p, _, _, _, rfl, rfl, SqT.of hp, (by rfl), rfl, _, rfl, ite2 (fun z => absurd z (ne_str kd2)) (fun _ => ?_)⟩
    refine ⟨_, rfl, p, _, _, _, rfl, rfl, SqT.of hp, (by rfl), rfl, _, rfl, ite2 (fun z => absurd z (ne_str kd3)) (fun _ => ?_)⟩
    refine ⟨_, rfl, p, _, _, _, rfl, rfl, SqT.of hp, (by rfl), rfl, _, rfl, ite2 (fun _ => ?_) (fun z => absurd (decide_eq_true rfl) z)⟩
    exact ⟨_, rfl, _, rfl, .inl ⟨i, rfl, log_small (hs.lok i rfl)⟩, q.1 _ rfl H (Tk.refl _)⟩
  | sel n cs o =>
    obtain ⟨p, c, kvs, wv, rfl, hp, ⟨ps, hc, p1, p2⟩, ho⟩ := hnd
    obtain ⟨w1, w2, w3, w4, w5, w6⟩ := hw
    refine ⟨_, rfl, p, _, _, _, rfl, rfl, SqT.of hp, (by rfl), rfl, _, rfl, ite2 (fun z => absurd z (ne_str kd4)) (fun _ => ?_)⟩
    refine ⟨_, rfl, p, _, _, _, rfl, rfl, SqT.of hp, (by rfl), rfl, _, rfl, ite2 (fun z => absurd z (ne_str kd5)) (fun _ => ?_)⟩
    refine ⟨_, rfl, p, _, _, _, rfl, rfl, SqT.of hp, (by rfl), rfl, _, rfl, ite2 (fun z => absurd z (ne_str kd6)) (fun _ => ?_)⟩
    refine ⟨_, rfl, p, _, _, _, rfl, rfl, SqT.of hp, (by rfl), rfl, _, rfl, ite2 (fun _ => ?_) (fun z => absurd (decide_eq_true rfl) z)⟩
    refine ⟨_, rfl, _, rfl, p, dd, c, args, kvs, n, ps, wv, rfl, hp, hs.dict, hs.ok, Nat.le_trans w1.1 (by decide), hc, p1, nodup_cs p2 w3, fun wd ev H' t => ?_, fun i ev => q.2.2 n (sel_int ev), fun ev => q.2.1 n (sel_no ev)⟩
    have q' := q.tk t
    rw [sel_at ev] at q'
    exact ⟨_, rfl, _, rfl, _, rfl, _, _, lv, rs, dd, args, left, b, rfl, (lkD_rel p2 ho).mn (Mn.tk t), hs.tk t, lk_all w5 w6, hd3, q'⟩
  | plu n off cs o =>
    obtain ⟨p, c, kvs, wv, rfl, hp, ⟨ps, hc, p1, p2⟩, ho⟩ := hnd
    obtain ⟨w1, h0, h9, w2, w3, _, w5, w6⟩ := hw
    refine ⟨_, rfl, p, _, _, _, rfl, rfl, SqT.of hp, (by rfl), rfl, _, rfl, ite2 (fun z => absurd z (ne_str kd7)) (fun _ => ?_)⟩
    refine ⟨_, rfl, p, _, _, _, rfl, rfl, SqT.of hp, (by rfl), rfl, _, rfl, ite2 (fun z => absurd z (ne_str kd8)) (fun _ => ?_)⟩
    refine ⟨_, rfl, p, _, _, _, rfl, rfl, SqT.of hp, (by rfl), rfl, _, rfl, ite2 (fun z => absurd z (ne_str kd9)) (fun _ => ?_)⟩
    refine ⟨_, rfl, p, _, _, _, rfl, rfl, SqT.of hp, (by rfl), rfl, _, rfl, ite2 (fun z => absurd z (ne_str kd10)) (fun _ => ?_)⟩
    refine ⟨_, rfl, _, rfl, p, dd, args, n, _, _, rfl, hp, hs.dict, hs.ok, Nat.le_trans w1.1 (by decide), fun i ev => ?_, fun wd ev => q.2.2 n (plu_str ev), fun ev => q.2.1 n (plu_no ev)⟩
    have hi : i.natAbs < 10 ^ 14 := by
      rcases hs.ok _ _ ev with ⟨j, e, hj⟩ | ⟨z, e, _⟩
      · cases e; exact hj
      · cases e
    refine ⟨_, rfl, _, rfl, _, rfl, p, c, lv, kvs, n, off, i, ps, wv, rs, rfl, hp, hs.lang, hs.t1, hs.t2, hc, p1, nodup_cs p2 w3, fun H' t => ?_⟩
    have q' := q.tk t
    rw [plu_at ev] at q'
    have ht := hs.tk t
    exact ⟨_, rfl, _, rfl, _, rfl, _, rfl, p, _, _, _, rfl, rfl, SqT.of ((Mn.tk t).tup hp), (by rfl), _, _, rfl, rfl, _, _, lv, rs, dd, args, some (i - off), true, rfl, (pick_rel p2 ho).mn (Mn.tk t), ⟨ht.lang, ht.dict, ht.ok, off_small hi h0 h9, fun _ => ⟨_, rfl⟩, ht.t1, ht.t2⟩, pick_all w5 w6, hd3, q'⟩
/-! ### shown_message -/
theorem TG.updL {H : Hp} {D : Addr} {xs ys : List V} (h : H D = some (.lst xs)) : ∀ {n : Nat} {P : Addr}, TG n H P → TG n (upd H D (.lst ys)) P
  | 0, _, ⟨ps, h1, h2⟩ => ⟨ps, by rw [upd_ne (ne_of h1 h (by intro z; cases z))]; exact h1, h2⟩
  | n + 1, _, ⟨ps, h1, h2, h3⟩ => ⟨ps, by rw [upd_ne (ne_of h1 h (by intro z; cases z))]; exact h1, h2, fun pos cv hc => by
    obtain ⟨c1, P1, e1, e2, e3⟩ := h3 pos cv hc
    refine ⟨c1, P1, e1, ?_, TG.updL h e3⟩
    rw [upd_ne (ne_of e2 h (by intro z; unfold CodeT at z; cases z))]
    exact e2⟩
/-- a new list is written -/
theorem Tk.updL {H H2 : Hp} {D : Addr} {xs ys : List V} (t : Tk H H2) (hn : H D = none) (h : H2 D = some (.lst xs)) : Tk H (upd H2 D (.lst ys)) :=
  ⟨fun b o e n => by rw [upd_ne (ne_of_none e hn)]; exact t.ext b o e n, fun n P e => TG.updL h (t.tg n P e), fun b e => by
    by_cases hb : b = D
    · rw [hb]; exact hn
    · rw [upd_ne hb] at e
      exact t.free b e⟩
theorem res_ok {C1 C2 : Addr} {H : Hp} {r r' : Res} {Q : VK} {E : XK} (h : Ways C1 C2 H r Q E) (e : r = r') : Ways C1 C2 H r' Q E := e ▸ h
theorem e_empty : (Str.ofString "" : Str) = Str.empty := by decide +kernel
theorem ok_msg {f C C1 C2 PR PC : Addr} {fd : FuncData} {d k : Nat} (F : Fun K "shown_message" "shown_message" sMsg f fd) (B : Bt mg) (GN : Dn P w K mg base (L2.CX P w) "shown_node" pNode k (spNode C C1 C2 PR PC d)) :
    FnOk P w K mg base (L2.CX P w) (k + 1) f fd pMsg (spMsg C C1 C2 PR PC (d + 1)) := by
  refine F.okX scMsg (fun vs H Q E h => ?_) (fun cdv A outer s H vs Q E hr h => ?_)
  · obtain ⟨v, m, lv, rs, dd, args, left, b, rfl, _⟩ := h
    rfl
  obtain ⟨v, m, lv, rs, dd, args, left, b, rfl, ⟨l, rvs, rfl, hl, pr⟩, hs, hw, hd3, q⟩ := h
  have nds := scMsg.nd
  have pr' : Paired (IsNd (IsM d H) H) rvs m.nds := pr
  have e4 : rvs.length = m.nds.length := Paired.len pr'
  refine ⟨_, pss_one (ps_ret (pe_join pe_str (GC.pe_lcX (own := [("node", 4)]) (g := gName 4) (te := tCallS (spNode C C1 C2 PR PC d) (fun _ => E) (tCons (tVar 4) (tCons (tVar 1) (tCons (tVar 2) (tCons (tVar 3) tNil))))) (E := E) rfl rfl (takes_of rfl rfl rfl rfl) rfl nds (pi_list (pv 0))
    (blkOk_by (own := [("node", 4)]) (N := nMsg) (sc := defScope sMsg) (by decide +kernel)) (fun _ _ _ _ _ => pg_name (i := 4) nds rfl (Or.inl rfl))
    (fun s H C cl fp xe hx => pe_dnS GN hr rfl hx (pa_cons (pv 4) (pa_cons (pv 1) (pa_cons (pv 2) (pa_cons (pv 3) pa_nil)))))))), ?_⟩
  refine ⟨⟨_, rfl⟩, _, rfl, l, rfl, ⟨_, SqL.of hl⟩, fun D hD => lc_list (K := K) (a := l) (xs := rvs) (fun i H' => ∃ ss : List Str, H' D = some (.lst (ss.map V.str)) ∧ Tk H H' ∧ ss.length = i ∧ (∀ s ∈ ss, s.length ≤ bnd d) ∧
      showM rs args (d + 1) m left = showL (showN (showM rs args d) rs args left) (catS ss) ((Msg.nds m).drop i))
    ⟨[], upd_same, Tk.new hD, rfl, by simp, rfl⟩ (fun i H' _ ⟨_, _, t, _⟩ => SqL.of ((Mn.tk t).lst hl)) ?_ ?_⟩
  · rintro i x H' hx ⟨ss, hDl, t, hlen, hb, he⟩
    obtain ⟨nd, hnd, rnd⟩ := Paired.get pr' hx
    rw [drop_at hnd] at he
    have hm := hw.2 nd (List.mem_of_getElem? hnd)
    refine ⟨rfl, _, rfl, _, rfl, _, rfl, _, rfl, x, nd, lv, rs, dd, args, left, b, rfl, rnd.mn (Mn.tk t) (fun _ _ z => z.mn (Mn.tk t)), hs.tk t, hm, ?_⟩
    refine ⟨fun s es H2 t2 => ?_, fun n es => ?_, fun n es => ?_⟩
    · have h2 := (Mn.tk t2).lst hDl
      have hlt : ss.length < sizeLine := by
        have : i < rvs.length := (List.getElem?_eq_some_iff.mp hx).1
        have e3 := hw.1
        rw [hlen]
        exact small1000 (by omega)
      refine ⟨_, h2, by rw [List.length_map]; exact hlt, ss ++ [s], by rw [upd_same, List.map_append]; rfl, Tk.updL (t.trans t2) hD h2, by simp [hlen], fun z hz => ?_, ?_⟩
      · rcases List.mem_append.mp hz with hz | hz
        · exact hb z hz
        · rw [List.mem_singleton.mp hz]
          exact showN_len hs.ok (bnd_pos d) hs.lok (fun b m left t w1 l1 h1 => showM_len hs.ok d b m left t w1 l1 h1) hm es
      · rw [he, showL_ok es, catS_snoc]
    · rw [showL_er es] at he
      exact (q.2.1 n he).tk t
    · rw [showL_er es] at he
      exact (q.2.2 n he).tk t
  · rintro H' ⟨ss, hDl, t, hlen, hb, he⟩
    rw [e4, List.drop_length] at he
    have hsum := sum_len hb
    have e3 := hw.1
    have e5 := bnd3 (d := d) (by omega)
    refine ⟨_, D, ss, rfl, rfl, .inl (SqL.of hDl), ?_, ?_⟩
    · have : ss.length * bnd d ≤ 3 * 1080 := Nat.mul_le_mul (by omega) e5
      have e6 : (Str.ofString "" : Str).length = 0 := by rw [e_empty]; rfl
      rw [e6]
      omega
    · have z := q.1 (catS ss) he H' t
      rw [← join_cat] at z
      exact z
/-! ### shown -/
def spShown (C C1 C2 PR PC : Addr) : Sp := fun vs H Q E => ∃ (v : V) (m : Msg 3) (lv : V) (rs : Rules) (dd : Addr) (args : List (Key × V)), vs = [v, lv, .ref dd] ∧ IsM 3 H v m ∧ Sh C PR PC H lv rs dd args none false ∧ Wf 3 false m ∧ Ways C1 C2 H (showM rs args 3 m none) Q E
abbrev nShown : List Str := ["message", "language", "arguments"]
theorem scShown : FnScope nShown nShown (defScope sShown) := ⟨rfl, rfl, rfl, by decide +kernel, rfl, by decide +kernel, by decide +kernel⟩
theorem ok_shown {f C C1 C2 PR PC : Addr} {fd : FuncData} (F : Fun K "shown" "shown" sShown f fd) (GM : Dn P w K mg base (L2.CX P w) "shown_message" pMsg 14 (spMsg C C1 C2 PR PC 3)) : FnOk P w K mg base (L2.CX P w) 15 f fd nShown (spShown C C1 C2 PR PC) := by
  refine F.okX scShown (fun vs H Q E h => ?_) (fun cdv A outer s H vs Q E hr h => ?_)
  · obtain ⟨v, m, lv, rs, dd, args, rfl, _⟩ := h
    rfl
  obtain ⟨v, m, lv, rs, dd, args, rfl, hm, hs, hw, q⟩ := h
  refine ⟨_, pss_one (ps_ret (pe_dnS GM hr rfl (fun σ => passAt (takes_of rfl rfl rfl rfl) σ) (pa_cons (pv 0) (pa_cons (pv 1) (pa_cons (pv 2) (pa_cons pe_non pa_nil)))))), ?_⟩
  exact ⟨_, rfl, _, rfl, _, rfl, v, m, lv, rs, dd, args, none, false, rfl, hm, hs, hw, Nat.le_refl _, q⟩
theorem msg_none {f C C1 C2 PR PC : Addr} {fd : FuncData} {k : Nat} : FnOk P w K mg base (L2.CX P w) k f fd pMsg (spMsg C C1 C2 PR PC 0) := by
  have no : ∀ vs H Q E, ¬ spMsg C C1 C2 PR PC 0 vs H Q E := fun vs H Q E h => by
    obtain ⟨v, m, _⟩ := h
    exact nomatch m
  exact ⟨fun vs H Q E h => absurd h (no vs H Q E), fun A outer s H args us vs Q E _ _ _ _ h => absurd h (no vs H Q E)⟩
theorem msg_levels {C C1 C2 i1 i2 PR PC fN fM : Addr} {dN dM : FuncData} (FN : Fun K "shown_node" "shown_node" sNode fN dN) (FM : Fun K "shown_message" "shown_message" sMsg fM dM) (mN : mg "shown_node" = some (.ref fN)) (mM : mg "shown_message" = some (.ref fM)) (bN : Binds K dN pNode []) (bM : Binds K dM pMsg [])
    (B : Bt mg) (T : Lc K mg C) (R : Er P K mg C1 C2 i1 i2) (GA : Dn P w K mg base (L2.CX P w) "argument_of" ["arguments", "name"] 3 (spArg C1))
    (GS : Dn P w K mg base (L2.CX P w) "selected" ["node", "arguments"] 4 (spSel C1 C2)) (GN : Dn P w K mg base (L2.CX P w) "number_of" ["node", "arguments"] 4 (spNum C1 C2)) (GC : Dn P w K mg base CX0 "counted" ["node", "language", "number"] 8 (spCnt C PR PC)) :
    ∀ d : Nat, d ≤ 3 → Dn P w K mg base (L2.CX P w) "shown_message" pMsg (8 + 2 * d) (spMsg C C1 C2 PR PC d)
  | 0, _ => ⟨fM, dM, msg_none, mM, FM.kp, bM⟩
  | d + 1, h => by
    have ih := msg_levels FN FM mN mM bN bM B T R GA GS GN GC d (by omega)
    have N : Dn P w K mg base (L2.CX P w) "shown_node" pNode (8 + 2 * d + 1) (spNode C C1 C2 PR PC d) := ⟨fN, dN, ok_node (by omega) (by omega) FN B T R GA GS GN GC ih, mN, FN.kp, bN⟩
    exact ⟨fM, dM, ok_msg FM B N, mM, FM.kp, bM⟩
end
end MW

set_option Elab.async false
set_option linter.all false
set_option maxRecDepth 100000
set_option maxHeartbeats 2000000
/-! W5: _law_chosen, _law_show. -/
namespace MW
open PySem PySem.Spec PyProof.Rows L2
open GA (Tk TG CodeT BM GScp gscp_by pe_anyG pe_allG gw_list tGen)
abbrev sChosen : Stmt := top 41
abbrev sLShow : Stmt := top 42
/-! ### the exact cases -/
def exV {M : Type} (cs : List (Key × M)) (i : Int) : List M := (cs.filter fun kv => decide (kv.1 = .inl i)).map (·.2)
theorem exV_head {M : Type} : ∀ (cs : List (Key × M)) (i : Int), (exV cs i).head? = lk cs (.inl i)
  | [], _ => rfl
  | c :: r, i => by
    unfold lk exV
    by_cases e : c.1 = .inl i
    · rw [if_pos e, List.filter_cons_of_pos (by simpa using e)]
      rfl
    · rw [if_neg e, List.filter_cons_of_neg (by simpa using e)]
      exact exV_head r i
theorem lk_hit {M : Type} {c : Key × M} {r : List (Key × M)} {k : Key} (h : c.1 = k) : lk (c :: r) k = some c.2 := by
  unfold lk
  rw [if_pos h]
theorem lk_skip {M : Type} {c : Key × M} {r : List (Key × M)} {k : Key} (h : ¬ c.1 = k) : lk (c :: r) k = lk r k := by
  rw [lk, if_neg h]
theorem exV_take {M : Type} {cs : List (Key × M)} {j : Nat} {c : Key × M} {i : Int} (h : cs[j]? = some c) : exV (cs.take (j + 1)) i = exV (cs.take j) i ++ (if c.1 = .inl i then [c.2] else []) := by
  obtain ⟨hi, e⟩ := List.getElem?_eq_some_iff.mp h
  unfold exV
  rw [List.take_succ_eq_append_getElem hi, List.filter_append, List.map_append, e]
  by_cases k : c.1 = .inl i
  · rw [if_pos k]
    simp [k]
  · rw [if_neg k]
    simp [k]
theorem exV_len {M : Type} (cs : List (Key × M)) (i : Int) (j : Nat) : (exV (cs.take j) i).length ≤ cs.length := by
  unfold exV
  rw [List.length_map]
  refine Nat.le_trans (List.length_filter_le _ _) ?_
  rw [List.length_take]
  exact Nat.min_le_right _ _
theorem exV_dp {K : PySem.W.Frag} {H : Hp} {d : Nat} {i : Int} : ∀ {kvs : List (Key × V)} {cs : List (Key × Msg d)}, Paired (fun kv km => kv.1 = km.1 ∧ IsM d H kv.2 km.2) kvs cs → (∀ kv ∈ cs, Wf d true kv.2) → ∃ ds, DpAll K H (exV kvs i) ds ∧ PyData.canLayAll0 ds = true ∧ PyData.depthAll ds ≤ 4 * d
  | _, _, .nil, _ => ⟨[], .nil, rfl, Nat.zero_le _⟩
  | _, _, .cons (a := kv) (b := km) h t, hw => by
    obtain ⟨ds, h1, h2, h3⟩ := exV_dp (K := K) (i := i) t (fun x hx => hw x (by simp [hx]))
    by_cases e : kv.1 = .inl i
    · obtain ⟨m1, m2⟩ := msD_ok d true km.2 (hw km (by simp))
      refine ⟨msD d km.2 :: ds, ?_, ?_, ?_⟩
      · unfold exV
        rw [List.filter_cons_of_pos (by simpa using e)]
        exact .cons (ms_dp h.2) h1
      · simp [PyData.canLayAll0, m1, h2]
      · simp only [PyData.depthAll]
        omega
    · refine ⟨ds, ?_, h2, h3⟩
      unfold exV
      rw [List.filter_cons_of_neg (by simpa using e)]
      exact h1
section
variable {P : Program} {w : World} {K : PySem.W.Frag} {mg : Str → Option Value} {base : Heap}
def spChosen (d : Nat) : Sp := fun vs H Q _ => d ≤ 3 ∧ ∃ (p c : Addr) (rv wv : V) (kvs : List (Key × V)) (n : Str) (ps : List Addr), H c = some (.lst (ps.map V.ref)) ∧ Paired (fun p kv => H p = some (.tup [kV kv.1, kv.2])) ps kvs ∧ kvs.length ≤ 10 ∧
  ((∃ wd : Str, vs = [.ref p, rv, .str wd] ∧ H p = some (.tup [.str "select", .str n, .ref c, wv]) ∧ ∀ H', Tk H H' → Q ((lk kvs (.inr wd)).getD wv) H') ∨
   (∃ (i off : Int) (rs : Rules) (cs : List (Key × Msg d)), vs = [.ref p, rv, .int i] ∧ H p = some (.tup [.str "plural", .str n, .int off, .ref c, wv]) ∧ IsRules H rv rs ∧ Paired (fun kv km => kv.1 = km.1 ∧ IsM d H kv.2 km.2) kvs cs ∧ (∀ kv ∈ cs, Wf d true kv.2) ∧
     ∀ H', Tk H H' → Q (pick kvs wv i (catOf rs (i - off))) H'))
abbrev nChosen : List Str := ["_law_node", "_law_rules_here", "_law_value", "_law_word", "_law_inner", "_law_key", "_law_exact"]
abbrev pChosen : List Str := ["_law_node", "_law_rules_here", "_law_value"]
theorem scChosen : FnScope nChosen pChosen (defScope sChosen) := ⟨rfl, rfl, rfl, by decide +kernel, rfl, by decide +kernel, by decide +kernel⟩
theorem scal_key (k : Key) (v : V) (h : (∃ s, v = .str s) ∨ ∃ i, v = .int i) : scal (kV k) v = true := by
  rcases h with ⟨s, rfl⟩ | ⟨i, rfl⟩ <;> cases k <;> rfl
theorem dec_key (k j : Key) : decide (kV k = kV j) = decide (k = j) := by
  cases k <;> cases j <;> simp [kV]
theorem ok_chosen {f : Addr} {fd : FuncData} {d : Nat} (F : Fun K "_law_chosen" "_law_chosen" sChosen f fd) (B : Bt mg) (G : Dn P w K mg base CX0 "_law_category" pLCat 2 spLCat) : FnOk P w K mg base CX0 3 f fd pChosen (spChosen d) := by
  refine F.ok scChosen (fun vs H Q E h => ?_) (fun cdv A outer s H vs Q E hr h => ?_)
  · obtain ⟨_, p, c, rv, wv, kvs, n, ps, _, _, _, ⟨wd, rfl, _⟩ | ⟨i, off, rs, cs, rfl, _⟩⟩ := h <;> rfl
  obtain ⟨hd3, p, c, rv, wv, kvs, n, ps, hc, pr, hkl, h⟩ := h
  have nd := scChosen.nd
  refine ⟨_, pss_cons (ps_if (pt_cmpR op_eq (pe_ix ix_tup (pv 0) pe_int (fun _ _ => rfl)) pe_str (nomark _))
      (pss_cons (ps_for PassesOwn.never rfl (pi_list (pe_ix ix_tup (pv 0) pe_int (fun _ _ => rfl))) (pg_tup (by rfl) (pgs_cons (pg_name (i := 3) nd rfl (Or.inl rfl)) (pgs_cons (pg_name (i := 4) nd rfl (Or.inl rfl)) pgs_nil)))
        (pss_one (ps_if (pt_cmpR op_eq (pv 3) (pv 2) (nomark _)) (pss_one (ps_ret (pv 4))) pss_nil)))
      (pss_one (ps_ret (pe_ix ix_tup (pv 0) pe_int (fun _ _ => rfl))))) pss_nil)
    (pss_cons (ps_setLc (i := 6) (own := [("_law_key", 5), ("_law_inner", 4)]) (g := gTup K 2 (gCons (gName 5) (gCons (gName 4) gNil)))
        (tt := tAnd (tNot (tB (tCB (rIsi K) (tCons (tVar 5) (tCons (tC (.ty "str")) tNil))))) (tTest (tOp rEq (tVar 5) (tVar 2)))) (by rfl) nd rfl rfl (sw_true rfl rfl rfl (by decide +kernel)) (pi_list (pe_ix ix_tup (pv 0) pe_int (fun _ _ => rfl)))
        (blkOk_by (own := [("_law_key", 5), ("_law_inner", 4)]) (N := nChosen) (sc := defScope sChosen) (by decide +kernel))
        (fun _ _ _ _ _ => pg_tup (by rfl) (pgs_cons (pg_name (i := 5) nd rfl (Or.inl rfl)) (pgs_cons (pg_name (i := 4) nd rfl (Or.inl rfl)) pgs_nil)))
        (fun _ _ _ _ _ => pts_one (PW.pt (pw_and (pt_not (pt_val (pe_callB call_isi rfl B.isi (by decide +kernel) (pa_cons (pv 5) (pa_cons (pe_bltn (v := .ty "str") rfl B.str (by decide +kernel) rfl) pa_nil))))) (pw_and1 (pt_cmpR op_eq (pv 5) (pv 2) (nomark _))))))
        (fun _ _ _ _ _ => pv 4))
    (pss_cons (ps_if (pt_cmpR (op_neD hr.units) (pv 6) (pe_lst pa_nil) (nomark _)) (pss_one (ps_ret (pe_ix ix_list (pv 6) pe_int (fun _ _ => rfl)))) pss_nil)
    (pss_cons (ps_for PassesOwn.never rfl (pi_list (pe_ix ix_tup (pv 0) pe_int (fun _ _ => rfl))) (pg_tup (by rfl) (pgs_cons (pg_name (i := 5) nd rfl (Or.inl rfl)) (pgs_cons (pg_name (i := 4) nd rfl (Or.inl rfl)) pgs_nil)))
        (pss_one (ps_if (pt_cmpR op_eq (pv 5) (pe_dn G hr rfl (pa_cons (pv 1) (pa_cons (pe_op op_sub (pv 2) (pe_ix ix_tup (pv 0) pe_int (fun _ _ => rfl))) pa_nil))) (nomark _)) (pss_one (ps_ret (pv 4))) pss_nil)))
    (pss_one (ps_ret (pe_ix ix_tup (pv 0) pe_int (fun _ _ => rfl))))))), ?_⟩
  rcases h with ⟨wd, rfl, hp, q⟩ | ⟨i, off, rs, cs, rfl, hp, hR, p2, hw, q⟩
  · refine ⟨_, rfl, p, _, _, _, rfl, rfl, SqT.of hp, (by rfl), rfl, _, rfl, ite2 (fun _ => ?_) (fun z => absurd (decide_eq_true rfl) z)⟩
    refine ⟨_, rfl, p, _, _, _, rfl, rfl, SqT.of hp, (by rfl), c, rfl, ⟨_, SqL.of hc⟩, for_list (K := K) (a := c) (xs := ps.map V.ref) (fun j σ H' => ∃ v3 v4 : Option V, σ = [some (.ref p), some rv, some (.str wd), v3, v4, none, none] ∧ H' = H ∧ lk kvs (.inr wd) = lk (kvs.drop j) (.inr wd))
      ⟨none, none, rfl, rfl, rfl⟩ (fun i σ H' _ ⟨_, _, _, e, _⟩ => by rw [e]; exact SqL.of hc) ?_ ?_⟩
    · rintro j x σ H' hx ⟨v3, v4, rfl, rfl, e⟩
      rw [List.getElem?_map] at hx
      obtain ⟨pp, hpp, rfl⟩ := Option.map_eq_some_iff.mp hx
      obtain ⟨kv, hkv, hpk⟩ := Paired.get pr hpp
      rw [drop_at hkv] at e
      refine ⟨pp, _, rfl, SqT.of hpk, rfl, _, _, rfl, _, _, rfl, rfl, ?_⟩
      refine ⟨_, rfl, _, rfl, scal_key _ _ (.inl ⟨_, rfl⟩), _, rfl, ?_⟩
      have ed : decide (kV kv.1 = V.str wd) = decide (kv.1 = Sum.inr wd) := dec_key kv.1 (.inr wd)
      rw [ed]
      refine ite2 (fun k => ?_) (fun k => ?_)
      · have z := q H' (Tk.refl _)
        rw [e, lk_hit (of_decide_eq_true k)] at z
        exact ⟨_, rfl, z⟩
      · exact ⟨_, _, rfl, rfl, e.trans (lk_skip (of_decide_eq_false (Bool.eq_false_iff.mpr k)))⟩
    · rintro σ H' ⟨v3, v4, rfl, rfl, e⟩
      have z := q H' (Tk.refl _)
      rw [e, List.length_map, Paired.len pr, List.drop_length] at z
      exact ⟨_, rfl, p, _, _, _, rfl, rfl, SqT.of hp, (by rfl), z⟩
  · refine ⟨_, rfl, p, _, _, _, rfl, rfl, SqT.of hp, (by rfl), rfl, _, rfl, ite2 (fun z => absurd z (ne_str kd10)) (fun _ => ?_)⟩
    refine ⟨_, rfl, p, _, _, _, rfl, rfl, SqT.of hp, (by rfl), c, rfl, ⟨_, SqL.of hc⟩, fun D hD => lc_list (K := K) (a := c) (xs := ps.map V.ref) (fun j H' => H' D = some (.lst (exV (kvs.take j) i)) ∧ Tk H H')
      ⟨upd_same, Tk.new hD⟩ (fun i H' _ ⟨_, t⟩ => SqL.of ((Mn.tk t).lst hc)) ?_ ?_⟩
    · rintro j x H' hx ⟨hDl, t⟩
      rw [List.getElem?_map] at hx
      obtain ⟨pp, hpp, rfl⟩ := Option.map_eq_some_iff.mp hx
      obtain ⟨kv, hkv, hpk⟩ := Paired.get pr hpp
      refine ⟨pp, _, rfl, SqT.of ((Mn.tk t).tup hpk), rfl, _, _, rfl, _, _, rfl, rfl, rfl, ?_⟩
      obtain ⟨ky, kw⟩ := kv
      have et := exV_take (i := i) hkv
      have small : (exV (kvs.take j) i).length < sizeLine := small1000 (Nat.le_trans (exV_len kvs i j) (by omega))
      cases ky with
      | inl k =>
        refine ⟨_, rfl, _, _, _, _, false, rfl, ClsV.ty "str", .base (TyOf.int k), kit_ty (by decide +kernel), _, rfl, ite2 (fun _ => ?_) (fun z => absurd rfl z)⟩
        refine ⟨_, rfl, _, rfl, rfl, _, rfl, ?_⟩
        have ed : decide (V.int k = V.int i) = decide ((Sum.inl k : Key) = Sum.inl i) := dec_key (.inl k) (.inl i)
        refine ite2 (fun z => ?_) (fun z => ?_)
        · have z1 : (Sum.inl k : Key) = Sum.inl i := of_decide_eq_true (ed.symm.trans z)
          rw [if_pos z1] at et
          refine ⟨_, rfl, _, hDl, small, ?_, Tk.updL t hD hDl⟩
          rw [upd_same, et]
        · have z1 : ¬ (Sum.inl k : Key) = Sum.inl i := of_decide_eq_false (ed.symm.trans (Bool.eq_false_iff.mpr z))
          rw [if_neg z1, List.append_nil] at et
          exact ⟨by rw [et]; exact hDl, t⟩
      | inr k =>
        refine ⟨_, rfl, _, _, _, _, true, rfl, ClsV.ty "str", .base (TyOf.str k), kit_ty (by decide +kernel), _, rfl, ite2 (fun z => Bool.noConfusion z) (fun _ => ?_)⟩
        refine ite2 (fun z => Bool.noConfusion z) (fun _ => ?_)
        rw [if_neg (by intro z; cases z), List.append_nil] at et
        exact ⟨by rw [et]; exact hDl, t⟩
    · rintro H' ⟨hDl, t⟩
      rw [List.length_map, Paired.len pr, List.take_length] at hDl
      have p3 : Paired (fun kv km => kv.1 = km.1 ∧ IsM d H' kv.2 km.2) kvs cs := Paired.mapP p2 fun _ _ z => ⟨z.1, z.2.mn (Mn.tk t)⟩
      refine ⟨_, rfl, (by show 0 ≤ sizeLine; decide), fun l hl => ?_⟩
      have t2 : Tk H' (upd H' l (.lst [])) := Tk.new hl
      have p4 : Paired (fun kv km => kv.1 = km.1 ∧ IsM d (upd H' l (.lst [])) kv.2 km.2) kvs cs := Paired.mapP p3 fun _ _ z => ⟨z.1, z.2.mn (Mn.tk t2)⟩
      obtain ⟨ds, d1, d2, d3⟩ := exV_dp (K := K) (i := i) p4 hw
      have z := fun H' t => q H' t
      unfold pick at z
      rw [← exV_head] at z
      have hDl2 := (Mn.tk t2).lst hDl
      refine ⟨.list ds, .list [], .lst (SqL.of hDl2) d1, .lst (SqL.of upd_same) .nil, ?_, by decide +kernel, _, rfl, ?_⟩
      · refine Bool.and_eq_true_iff.mpr ⟨by simpa [PyData.canLay0] using d2, decide_eq_true ?_⟩
        simp only [PyData.depth]
        omega
      generalize hx : exV kvs i = xs at z d1 hDl hDl2
      cases d1 with
      | nil =>
        refine ite2 (fun z => absurd z (by decide +kernel)) (fun _ => ?_)
        have tt := t.trans t2
        refine ⟨_, rfl, p, _, _, _, rfl, rfl, SqT.of ((Mn.tk tt).tup hp), (by rfl), c, rfl, ⟨_, SqL.of ((Mn.tk tt).lst hc)⟩, for_list (K := K) (a := c) (xs := ps.map V.ref) (fun j σ H3 => ∃ v4 v5 : Option V, σ = [some (.ref p), some rv, some (.int i), none, v4, v5, some (.ref D)] ∧ H3 = upd H' l (.lst []) ∧ lk kvs (.inr (catOf rs (i - off))) = lk (kvs.drop j) (.inr (catOf rs (i - off))))
          ⟨none, none, rfl, rfl, rfl⟩ (fun i σ H3 _ ⟨_, _, _, e, _⟩ => by rw [e]; exact SqL.of ((Mn.tk tt).lst hc)) ?_ ?_⟩
        · rintro j x σ H3 hx ⟨v4, v5, rfl, rfl, e⟩
          rw [List.getElem?_map] at hx
          obtain ⟨pp, hpp, rfl⟩ := Option.map_eq_some_iff.mp hx
          obtain ⟨kv, hkv, hpk⟩ := Paired.get pr hpp
          rw [drop_at hkv] at e
          refine ⟨pp, _, rfl, SqT.of ((Mn.tk tt).tup hpk), rfl, _, _, rfl, _, _, rfl, rfl, ?_⟩
          refine ⟨_, rfl, _, rfl, _, rfl, _, rfl, p, _, _, _, rfl, rfl, SqT.of ((Mn.tk tt).tup hp), (by rfl), _, _, rfl, rfl, rv, rs, i - off, rfl, hR.mn (Mn.tk tt), ?_⟩
          refine ⟨scal_key _ _ (.inl ⟨_, rfl⟩), _, rfl, ?_⟩
          have ed : decide (kV kv.1 = V.str (catOf rs (i - off))) = decide (kv.1 = Sum.inr (catOf rs (i - off))) := dec_key kv.1 (.inr _)
          rw [ed]
          refine ite2 (fun k => ?_) (fun k => ?_)
          · have z2 := z _ tt
            rw [e, lk_hit (of_decide_eq_true k)] at z2
            exact ⟨_, rfl, z2⟩
          · exact ⟨_, _, rfl, rfl, e.trans (lk_skip (of_decide_eq_false (Bool.eq_false_iff.mpr k)))⟩
        · rintro σ H3 ⟨v4, v5, rfl, rfl, e⟩
          have z2 := z _ tt
          rw [e, List.length_map, Paired.len pr, List.drop_length] at z2
          exact ⟨_, rfl, p, _, _, _, rfl, rfl, SqT.of ((Mn.tk tt).tup hp), (by rfl), z2⟩
      | cons h1 h2 =>
        refine ite2 (fun _ => ?_) (fun z => absurd (by simp [PyData.eqv, PyData.eqvAll]) z)
        exact ⟨_, rfl, D, _, _, _, rfl, rfl, SqL.of hDl2, atI_nat (j := 0) rfl, z _ (t.trans t2)⟩
/-! ### _law_show -/
def erS (b : Bool) : Str := if b = true then "wrong" else "missing"
def RWays (H : Hp) (r : Res) (Q : VK) : Prop := (∀ s, r = .ok s → ∀ H', Tk H H' → Q (.str s) H') ∧ ∀ b n, r = .er b n → ∀ p H', Tk H H' → H' p = some (.tup [.str (erS b), .str n]) → Q (.ref p) H'
theorem RWays.tk {H H1 : Hp} {r : Res} {Q : VK} (h : RWays H r Q) (t : Tk H H1) : RWays H1 r Q := ⟨fun s e H' t' => h.1 s e H' (t.trans t'), fun b n e p H' t' hp => h.2 b n e p H' (t.trans t') hp⟩
/-- what is asked of a call of the law's own shower -/
structure Ls (H : Hp) (rv : V) (rs : Rules) (dd : Addr) (args : List (Key × V)) (left : Option Int) (b : Bool) : Prop where
  rules : IsRules H rv rs
  dict : H dd = some (.dK args)
  ok : AOk args
  lok : LOk left
  lb : b = true → ∃ i, left = some i
theorem Ls.tk {H H' : Hp} {rv : V} {rs : Rules} {dd : Addr} {args : List (Key × V)} {left : Option Int} {b : Bool} (h : Ls H rv rs dd args left b) (t : Tk H H') : Ls H' rv rs dd args left b := ⟨h.rules.mn (Mn.tk t), (Mn.tk t).dK h.dict, h.ok, h.lok, h.lb⟩
def spLShow (d : Nat) : Sp := fun vs H Q _ => d ≤ 3 ∧ ∃ (v : V) (m : Msg d) (rv : V) (rs : Rules) (dd : Addr) (args : List (Key × V)) (left : Option Int) (b : Bool), vs = [v, rv, .ref dd, leftV left] ∧ IsM d H v m ∧ Ls H rv rs dd args left b ∧ Wf d b m ∧ RWays H (showM rs args d m left) Q
abbrev nLShow : List Str := ["_law_message_here", "_law_rules_here", "_law_arguments", "_law_left", "_law_found", "_law_node", "_law_value", "_law_more", "_law_inner"]
abbrev pLShow : List Str := ["_law_message_here", "_law_rules_here", "_law_arguments", "_law_left"]
theorem scLShow : FnScope nLShow pLShow (defScope sLShow) := ⟨rfl, rfl, rfl, by decide +kernel, rfl, by decide +kernel, by decide +kernel⟩
theorem lshow_none {f : Addr} {fd : FuncData} {k : Nat} : FnOk P w K mg base CX0 k f fd pLShow (spLShow 0) := by
  have no : ∀ vs H Q E, ¬ spLShow 0 vs H Q E := fun vs H Q E h => by
    obtain ⟨_, v, m, _⟩ := h
    exact nomatch m
  exact ⟨fun vs H Q E h => absurd h (no vs H Q E), fun A outer s H args us vs Q E _ _ _ _ h => absurd h (no vs H Q E)⟩
theorem kd11 : ¬ (("text" : Str) = "number") := by decide +kernel
theorem kd12 : ¬ (("show" : Str) = "number") := by decide +kernel
theorem kd13 : ¬ (("select" : Str) = "plural") := by decide +kernel
theorem ok_lshow {f : Addr} {fd : FuncData} {d k : Nat} (hk : 3 ≤ k) (F : Fun K "_law_show" "_law_show" sLShow f fd) (B : Bt mg) (GC : Dn P w K mg base CX0 "_law_chosen" pChosen 3 (spChosen d)) (G : Dn P w K mg base CX0 "_law_show" pLShow k (spLShow d)) :
    FnOk P w K mg base CX0 (k + 1) f fd pLShow (spLShow (d + 1)) := by
  refine F.ok scLShow (fun vs H Q E h => ?_) (fun cdv A outer s H vs Q E hr h => ?_)
  · obtain ⟨_, v, m, rv, rs, dd, args, left, b, rfl, _⟩ := h
    rfl
  obtain ⟨hd3, v, m, rv, rs, dd, args, left, b, rfl, ⟨l, rvs, rfl, hl, pr⟩, hs, hw, q⟩ := h
  have nd := scLShow.nd
  have hu := hu_of hr
  have hr3 := hr.mono (j := 3) hk
  have pr' : Paired (IsNd (IsM d H) H) rvs m.nds := pr
  have e4 : rvs.length = m.nds.length := Paired.len pr'
  refine ⟨_, pss_cons (ps_set (i := 4) nd rfl (Or.inl rfl) pe_str)
    (pss_cons (ps_for PassesOwn.never rfl (pi_list (pv 0)) (pg_name (i := 5) nd rfl (Or.inl rfl))
      (pss_one (ps_if (pt_cmpR op_eq (pe_ix ix_tup (pv 5) pe_int (fun _ _ => rfl)) pe_str (nomark _)) (pss_one (ps_set (i := 4) nd rfl (Or.inl rfl) (pe_op op_add_str (pv 4) (pe_ix ix_tup (pv 5) pe_int (fun _ _ => rfl)))))
      (pss_one (ps_if (pt_cmpR op_eq (pe_ix ix_tup (pv 5) pe_int (fun _ _ => rfl)) pe_str (nomark _)) (pss_one (ps_set (i := 4) nd rfl (Or.inl rfl) (pe_op op_add_str (pv 4) (pe_callTy call_strV rfl B.str (by decide +kernel) (pa_cons (pv 3) pa_nil)))))
      (pss_one (ps_if (pt_cmp (pc_dnotin hu (pe_ix ix_tup (pv 5) pe_int (fun _ _ => rfl)) (pv 2))) (pss_one (ps_ret (pe_tup (pa_cons pe_str (pa_cons (pe_ix ix_tup (pv 5) pe_int (fun _ _ => rfl)) pa_nil)))))
      (pss_one (ps_if (pt_cmpR op_eq (pe_ix ix_tup (pv 5) pe_int (fun _ _ => rfl)) pe_str (nomark _))
        (pss_one (ps_set (i := 4) nd rfl (Or.inl rfl) (pe_op op_add_str (pv 4) (pe_callTy call_strV rfl B.str (by decide +kernel) (pa_cons (pe_dget hu (pv 2) (pe_ix ix_tup (pv 5) pe_int (fun _ _ => rfl)) (fun _ _ => rfl)) pa_nil)))))
      (pss_one (ps_if (pt_cmpR op_ne (pe_callB call_isi rfl B.isi (by decide +kernel) (pa_cons (pe_dget hu (pv 2) (pe_ix ix_tup (pv 5) pe_int (fun _ _ => rfl)) (fun _ _ => rfl)) (pa_cons (pe_bltn (v := .ty "str") rfl B.str (by decide +kernel) rfl) pa_nil)))
          (pe_cmpR op_eq (pe_ix ix_tup (pv 5) pe_int (fun _ _ => rfl)) pe_str (nomark _)) (nomark _))
        (pss_one (ps_ret (pe_tup (pa_cons pe_str (pa_cons (pe_ix ix_tup (pv 5) pe_int (fun _ _ => rfl)) pa_nil)))))
        (pss_cons (ps_set (i := 6) nd rfl (Or.inl rfl) (pe_dget hu (pv 2) (pe_ix ix_tup (pv 5) pe_int (fun _ _ => rfl)) (fun _ _ => rfl)))
        (pss_cons (ps_set (i := 7) nd rfl (Or.inl rfl) (pv 3))
        (pss_cons (ps_if (pt_cmpR op_eq (pe_ix ix_tup (pv 5) pe_int (fun _ _ => rfl)) pe_str (nomark _)) (pss_one (ps_set (i := 7) nd rfl (Or.inl rfl) (pe_op op_sub (pv 6) (pe_ix ix_tup (pv 5) pe_int (fun _ _ => rfl))))) pss_nil)
        (pss_cons (ps_set (i := 8) nd rfl (Or.inl rfl) (pe_dn G hr rfl (pa_cons (pe_dn GC hr3 rfl (pa_cons (pv 5) (pa_cons (pv 1) (pa_cons (pv 6) pa_nil)))) (pa_cons (pv 1) (pa_cons (pv 2) (pa_cons (pv 7) pa_nil))))))
        (pss_cons (ps_if (pt_val (pe_callB call_isi rfl B.isi (by decide +kernel) (pa_cons (pv 8) (pa_cons (pe_bltn (v := .ty "tuple") rfl B.tuple (by decide +kernel) rfl) pa_nil)))) (pss_one (ps_ret (pv 8))) pss_nil)
        (pss_one (ps_set (i := 4) nd rfl (Or.inl rfl) (pe_op op_add_str (pv 4) (pv 8))))))))))))))))))))
    (pss_one (ps_ret (pv 4)))), ?_⟩
  refine ⟨_, rfl, l, rfl, ⟨_, SqL.of hl⟩, for_list (K := K) (a := l) (xs := rvs) (fun j σ H' => ∃ (acc : Str) (o5 o6 o7 o8 : Option V), σ = [some (.ref l), some rv, some (.ref dd), some (leftV left), some (.str acc), o5, o6, o7, o8] ∧ Tk H H' ∧ showM rs args (d + 1) m left = showL (showN (showM rs args d) rs args left) acc (m.nds.drop j) ∧ acc.length ≤ j * bnd d)
    ⟨Str.ofString "", none, none, none, none, rfl, Tk.refl _, by rw [e_empty]; rfl, by rw [e_empty]; exact Nat.zero_le _⟩ (fun j σ H' _ ⟨_, _, _, _, _, _, t, _⟩ => SqL.of ((Mn.tk t).lst hl)) ?_ ?_⟩
  · rintro j x σ H' hx ⟨acc, o5, o6, o7, o8, rfl, t, he, hlen⟩
    obtain ⟨nd', hnd, rnd⟩ := Paired.get pr' hx
    rw [drop_at hnd] at he
    have hm := hw.2 nd' (List.mem_of_getElem? hnd)
    have hj : j < 3 := by
      have e1 := (List.getElem?_eq_some_iff.mp hnd).1
      have e2 := hw.1
      omega
    have rnd' := rnd.mn (R' := IsM d H') (Mn.tk t) (fun _ _ z => z.mn (Mn.tk t))
    have hs' := hs.tk t
    have q' := q.tk t
    have e5 := bnd3 (d := d) (by omega)
    have next : ∀ s : Str, showN (showM rs args d) rs args left nd' = .ok s → s.length ≤ bnd d ∧ acc.length + s.length ≤ sizeLine ∧ showM rs args (d + 1) m left = showL (showN (showM rs args d) rs args left) (acc ++ s) (m.nds.drop (j + 1)) ∧ (acc ++ s).length ≤ (j + 1) * bnd d := fun s es => by
      have h1 : s.length ≤ bnd d := showN_len hs.ok (bnd_pos d) hs.lok (fun b m left t w1 l1 h1 => showM_len hs.ok d b m left t w1 l1 h1) hm es
      have h2 : j * bnd d ≤ 3 * 1080 := Nat.mul_le_mul (by omega) e5
      refine ⟨h1, sizes _ (by omega), he.trans (showL_ok es), ?_⟩
      rw [len_app, Nat.succ_mul]
      omega
    have stop : ∀ b n, showN (showM rs args d) rs args left nd' = .er b n → showM rs args (d + 1) m left = .er b n := fun b n es => he.trans (showL_er es)
    cases nd' with
    | txt s =>
      obtain ⟨p, rfl, hp⟩ := rnd'
      obtain ⟨n1, n2, n3, n4⟩ := next s rfl
      refine ⟨_, rfl, p, _, _, _, rfl, rfl, SqT.of hp, (by rfl), rfl, _, rfl, ite2 (fun _ => ?_) (fun z => absurd (decide_eq_true rfl) z)⟩
      exact ⟨_, rfl, _, rfl, p, _, _, _, rfl, rfl, SqT.of hp, (by rfl), _, _, rfl, rfl, n2, acc ++ s, _, _, _, _, rfl, t, n3, n4⟩
    | num =>
      obtain ⟨p, rfl, hp⟩ := rnd'
      obtain ⟨i, rfl⟩ := hs.lb hm
      obtain ⟨n1, n2, n3, n4⟩ := next _ rfl
      refine ⟨_, rfl, p, _, _, _, rfl, rfl, SqT.of hp, (by rfl), rfl, _, rfl, ite2 (fun z => absurd z (ne_str kd2)) (fun _ => ?_)⟩
      refine ⟨_, rfl, p, _, _, _, rfl, rfl, SqT.of hp, (by rfl), rfl, _, rfl, ite2 (fun _ => ?_) (fun z => absurd (decide_eq_true rfl) z)⟩
      exact ⟨_, rfl, _, rfl, _, rfl, .inl ⟨i, rfl, log_small (hs.lok i rfl)⟩, _, _, rfl, rfl, n2, _, _, _, _, _, rfl, t, n3, n4⟩
    | shw n =>
      obtain ⟨p, rfl, hp⟩ := rnd'
      refine ⟨_, rfl, p, _, _, _, rfl, rfl, SqT.of hp, (by rfl), rfl, _, rfl, ite2 (fun z => absurd z (ne_str kd1)) (fun _ => ?_)⟩
      refine ⟨_, rfl, p, _, _, _, rfl, rfl, SqT.of hp, (by rfl), rfl, _, rfl, ite2 (fun z => absurd z (ne_str kd12)) (fun _ => ?_)⟩
      refine ⟨_, rfl, p, _, _, _, rfl, rfl, SqT.of hp, (by rfl), _, rfl, dd, _, rfl, DGet.k (k := Sum.inr n) hs'.dict, _, rfl, ?_⟩
      cases ev : valV args (.inr n) with
      | none =>
        refine ⟨_, rfl, p, _, _, _, rfl, rfl, SqT.of hp, (by rfl), (by show 2 ≤ sizeLine; decide), fun tt htt => ?_⟩
        exact q'.2 false n (stop _ _ (shw_no ev)) tt _ (Tk.new htt) upd_same
      | some vv =>
        obtain ⟨n1, n2, n3, n4⟩ := next _ (shw_at ev)
        refine ⟨_, rfl, p, _, _, _, rfl, rfl, SqT.of hp, (by rfl), rfl, _, rfl, ite2 (fun _ => ?_) (fun z => absurd (decide_eq_true rfl) z)⟩
        refine ⟨_, rfl, _, rfl, _, rfl, p, _, _, _, rfl, rfl, SqT.of hp, (by rfl), dd, vv, rfl, ev ▸ DGet.k (k := Sum.inr n) hs'.dict, vv, rfl, ?_, _, _, rfl, rfl, n2, _, _, _, _, _, rfl, t, n3, n4⟩
        rcases hs.ok _ _ ev with ⟨i, rfl, hi⟩ | ⟨z, rfl, _⟩
        · exact .inl ⟨i, rfl, log_small (Nat.lt_of_lt_of_le hi (by decide))⟩
        · exact .inr ⟨z, rfl⟩
    | sel n cs o =>
      obtain ⟨p, c, kvs, wv, rfl, hp, ⟨ps, hc, p1, p2⟩, ho⟩ := rnd'
      have hkl : kvs.length ≤ 10 := by rw [Paired.len p2]; exact hm.2.1
      refine ⟨_, rfl, p, _, _, _, rfl, rfl, SqT.of hp, (by rfl), rfl, _, rfl, ite2 (fun z => absurd z (ne_str kd4)) (fun _ => ?_)⟩
      refine ⟨_, rfl, p, _, _, _, rfl, rfl, SqT.of hp, (by rfl), rfl, _, rfl, ite2 (fun z => absurd z (ne_str kd6)) (fun _ => ?_)⟩
      refine ⟨_, rfl, p, _, _, _, rfl, rfl, SqT.of hp, (by rfl), _, rfl, dd, _, rfl, DGet.k (k := Sum.inr n) hs'.dict, _, rfl, ?_⟩
      cases ev : valV args (.inr n) with
      | none =>
        refine ⟨_, rfl, p, _, _, _, rfl, rfl, SqT.of hp, (by rfl), (by show 2 ≤ sizeLine; decide), fun tt htt => ?_⟩
        exact q'.2 false n (stop _ _ (sel_no ev)) tt _ (Tk.new htt) upd_same
      | some vv =>
        have hg : DGet H' dd (.str n) (some vv) := ev ▸ DGet.k (k := Sum.inr n) hs'.dict
        refine ⟨_, rfl, p, _, _, _, rfl, rfl, SqT.of hp, (by rfl), rfl, _, rfl, ite2 (fun z => absurd z (ne_str kd5)) (fun _ => ?_)⟩
        rcases hs.ok _ _ ev with ⟨i, rfl, hi⟩ | ⟨wd, rfl, _⟩
        · refine ⟨_, rfl, _, rfl, p, _, _, _, rfl, rfl, SqT.of hp, (by rfl), dd, _, rfl, hg, _, _, _, _, false, rfl, ClsV.ty "str", .base (TyOf.int i), kit_ty (by decide +kernel), _, rfl, p, _, _, _, rfl, rfl, SqT.of hp, (by rfl), rfl, rfl, _, rfl, ite2 (fun _ => ?_) (fun z => absurd (by decide +kernel) z)⟩
          refine ⟨_, rfl, p, _, _, _, rfl, rfl, SqT.of hp, (by rfl), (by show 2 ≤ sizeLine; decide), fun tt htt => ?_⟩
          exact q'.2 true n (stop _ _ (sel_int ev)) tt _ (Tk.new htt) upd_same
        · refine ⟨_, rfl, _, rfl, p, _, _, _, rfl, rfl, SqT.of hp, (by rfl), dd, _, rfl, hg, _, _, _, _, true, rfl, ClsV.ty "str", .base (TyOf.str wd), kit_ty (by decide +kernel), _, rfl, p, _, _, _, rfl, rfl, SqT.of hp, (by rfl), rfl, rfl, _, rfl, ite2 (fun z => absurd z (by decide +kernel)) (fun _ => ?_)⟩
          refine ⟨_, rfl, _, rfl, p, _, _, _, rfl, rfl, SqT.of hp, (by rfl), dd, _, rfl, hg, _, rfl, _, rfl, p, _, _, _, rfl, rfl, SqT.of hp, (by rfl), rfl, _, rfl, ite2 (fun z => absurd z (ne_str kd13)) (fun _ => ?_)⟩
          refine ⟨_, rfl, _, rfl, _, rfl, by omega, p, c, rv, wv, kvs, n, ps, hc, p1, hkl, .inl ⟨wd, rfl, hp, fun H2 t2 => ?_⟩⟩
          refine ⟨_, rfl, _, rfl, _, rfl, by omega, _, _, rv, rs, dd, args, left, b, rfl, (lkD_rel p2 ho).mn (Mn.tk t2), hs'.tk t2, lk_all hm.2.2.2.2.1 hm.2.2.2.2.2, ?_⟩
          have es := sel_at (sm := showM rs args d) (rs := rs) (left := left) (cs := cs) (o := o) ev
          refine ⟨fun s e H3 t3 => ?_, fun bb n' e p3 H3 t3 hp3 => ?_⟩
          · obtain ⟨n1, n2, n3, n4⟩ := next s (es.trans e)
            refine ⟨_, rfl, _, _, _, _, false, rfl, ClsV.ty "tuple", .base (TyOf.str s), kit_ty (by decide +kernel), _, rfl, ite2 (fun z => Bool.noConfusion z) (fun _ => ?_)⟩
            exact ⟨_, rfl, _, rfl, _, _, rfl, rfl, n2, _, _, _, _, _, rfl, t.trans (t2.trans t3), n3, n4⟩
          · refine ⟨_, rfl, _, _, _, _, true, rfl, ClsV.ty "tuple", .base (TyOf.tup hp3), kit_ty (by decide +kernel), _, rfl, ite2 (fun _ => ?_) (fun z => absurd rfl z)⟩
            exact ⟨_, rfl, q'.2 bb n' (stop _ _ (es.trans e)) p3 H3 (t2.trans t3) hp3⟩
    | plu n off cs o =>
      obtain ⟨p, c, kvs, wv, rfl, hp, ⟨ps, hc, p1, p2⟩, ho⟩ := rnd'
      have hkl : kvs.length ≤ 10 := by rw [Paired.len p2]; exact hm.2.2.2.1
      refine ⟨_, rfl, p, _, _, _, rfl, rfl, SqT.of hp, (by rfl), rfl, _, rfl, ite2 (fun z => absurd z (ne_str kd7)) (fun _ => ?_)⟩
      refine ⟨_, rfl, p, _, _, _, rfl, rfl, SqT.of hp, (by rfl), rfl, _, rfl, ite2 (fun z => absurd z (ne_str kd9)) (fun _ => ?_)⟩
      refine ⟨_, rfl, p, _, _, _, rfl, rfl, SqT.of hp, (by rfl), _, rfl, dd, _, rfl, DGet.k (k := Sum.inr n) hs'.dict, _, rfl, ?_⟩
      cases ev : valV args (.inr n) with
      | none =>
        refine ⟨_, rfl, p, _, _, _, rfl, rfl, SqT.of hp, (by rfl), (by show 2 ≤ sizeLine; decide), fun tt htt => ?_⟩
        exact q'.2 false n (stop _ _ (plu_no ev)) tt _ (Tk.new htt) upd_same
      | some vv =>
        have hg : DGet H' dd (.str n) (some vv) := ev ▸ DGet.k (k := Sum.inr n) hs'.dict
        refine ⟨_, rfl, p, _, _, _, rfl, rfl, SqT.of hp, (by rfl), rfl, _, rfl, ite2 (fun z => absurd z (ne_str kd8)) (fun _ => ?_)⟩
        rcases hs.ok _ _ ev with ⟨i, rfl, hi⟩ | ⟨wd, rfl, _⟩
        · refine ⟨_, rfl, _, rfl, p, _, _, _, rfl, rfl, SqT.of hp, (by rfl), dd, _, rfl, hg, _, _, _, _, false, rfl, ClsV.ty "str", .base (TyOf.int i), kit_ty (by decide +kernel), _, rfl, p, _, _, _, rfl, rfl, SqT.of hp, (by rfl), rfl, rfl, _, rfl, ite2 (fun z => absurd z (by decide +kernel)) (fun _ => ?_)⟩
          refine ⟨_, rfl, _, rfl, p, _, _, _, rfl, rfl, SqT.of hp, (by rfl), dd, _, rfl, hg, _, rfl, _, rfl, p, _, _, _, rfl, rfl, SqT.of hp, (by rfl), rfl, _, rfl, ite2 (fun _ => ?_) (fun z => absurd (decide_eq_true rfl) z)⟩
          refine ⟨_, rfl, _, rfl, p, _, _, _, rfl, rfl, SqT.of hp, (by rfl), _, _, rfl, rfl, ?_⟩
          refine ⟨_, rfl, _, rfl, _, rfl, by omega, p, c, rv, wv, kvs, n, ps, hc, p1, hkl, .inr ⟨i, off, rs, cs, rfl, hp, hs'.rules, p2, hm.2.2.2.2.2.2.1, fun H2 t2 => ?_⟩⟩
          refine ⟨_, rfl, _, rfl, _, rfl, by omega, _, _, rv, rs, dd, args, some (i - off), true, rfl, (pick_rel p2 ho).mn (Mn.tk t2), ⟨(hs'.tk t2).rules, (hs'.tk t2).dict, hs.ok, off_small hi hm.2.1 hm.2.2.1, fun _ => ⟨_, rfl⟩⟩, pick_all hm.2.2.2.2.2.2.1 hm.2.2.2.2.2.2.2, ?_⟩
          have es := plu_at (sm := showM rs args d) (rs := rs) (left := left) (off := off) (cs := cs) (o := o) ev
          refine ⟨fun s e H3 t3 => ?_, fun bb n' e p3 H3 t3 hp3 => ?_⟩
          · obtain ⟨n1, n2, n3, n4⟩ := next s (es.trans e)
            refine ⟨_, rfl, _, _, _, _, false, rfl, ClsV.ty "tuple", .base (TyOf.str s), kit_ty (by decide +kernel), _, rfl, ite2 (fun z => Bool.noConfusion z) (fun _ => ?_)⟩
            exact ⟨_, rfl, _, rfl, _, _, rfl, rfl, n2, _, _, _, _, _, rfl, t.trans (t2.trans t3), n3, n4⟩
          · refine ⟨_, rfl, _, _, _, _, true, rfl, ClsV.ty "tuple", .base (TyOf.tup hp3), kit_ty (by decide +kernel), _, rfl, ite2 (fun _ => ?_) (fun z => absurd rfl z)⟩
            exact ⟨_, rfl, q'.2 bb n' (stop _ _ (es.trans e)) p3 H3 (t2.trans t3) hp3⟩
        · refine ⟨_, rfl, _, rfl, p, _, _, _, rfl, rfl, SqT.of hp, (by rfl), dd, _, rfl, hg, _, _, _, _, true, rfl, ClsV.ty "str", .base (TyOf.str wd), kit_ty (by decide +kernel), _, rfl, p, _, _, _, rfl, rfl, SqT.of hp, (by rfl), rfl, rfl, _, rfl, ite2 (fun _ => ?_) (fun z => absurd (by decide +kernel) z)⟩
          refine ⟨_, rfl, p, _, _, _, rfl, rfl, SqT.of hp, (by rfl), (by show 2 ≤ sizeLine; decide), fun tt htt => ?_⟩
          exact q'.2 true n (stop _ _ (plu_str ev)) tt _ (Tk.new htt) upd_same
  · rintro σ H' ⟨acc, o5, o6, o7, o8, rfl, t, he, hlen⟩
    rw [e4, List.drop_length] at he
    exact ⟨_, rfl, q.1 acc he H' t⟩
end
end MW

set_option Elab.async false
set_option linter.all false
set_option maxRecDepth 100000
set_option maxHeartbeats 2000000
/-! W6: _law_told; the levels of _law_show. -/
namespace MW
open PySem PySem.Spec PyProof.Rows L2
open GA (Tk TG CodeT BM GScp gscp_by pe_anyG pe_allG gw_list tGen)
abbrev sTold : Stmt := top 43
/-- the classes as except and isinstance see them -/
structure Ec (K : PySem.W.Frag) (mg : Str → Option Value) (C0 C1 C2 : Addr) : Prop where
  g0 : mg "MessagewaysError" = some (.ref C0)
  x1 : PySem.W.exmOne K (.ref C1) (.ref C0) = some true
  x2 : PySem.W.exmOne K (.ref C2) (.ref C0) = some true
  e1 : ExcC K C1
  e2 : ExcC K C2
  k11 : PySem.W.kitOne K (.ref C1) (.ref C1) = some true
  k21 : PySem.W.kitOne K (.ref C2) (.ref C1) = some false
  k22 : PySem.W.kitOne K (.ref C2) (.ref C2) = some true
section
variable {P : Program} {w : World} {K : PySem.W.Frag} {mg : Str → Option Value} {base : Heap}
theorem lshow_levels {f : Addr} {fd : FuncData} (F : Fun K "_law_show" "_law_show" sLShow f fd) (mF : mg "_law_show" = some (.ref f)) (bF : Binds K fd pLShow []) (B : Bt mg) (GC : ∀ d, Dn P w K mg base CX0 "_law_chosen" pChosen 3 (spChosen d)) :
    ∀ d : Nat, Dn P w K mg base CX0 "_law_show" pLShow (3 + d) (spLShow d)
  | 0 => ⟨f, fd, lshow_none, mF, F.kp, bF⟩
  | d + 1 => ⟨f, fd, ok_lshow (Nat.le_add_right 3 d) F B (GC d) (lshow_levels F mF bF B GC d), mF, F.kp, bF⟩
/-! ### _law_told -/
def t_told (K : PySem.W.Frag) (C1 C2 : Addr) : Addr → Value → Option Addr → TS := fun a cls d =>
  tSeq (tIfS (tB (tCB (rIsEd K a cls d) (tCons (tVar 3) (tCons (tC (.ref C1)) tNil)))) (tRet (tTup (tCons (tC (.str "missing")) (tCons (tXf a cls d C1 "name" (tVar 3)) tNil)))) tNext)
  (tSeq (tIfS (tB (tCB (rIsEd K a cls d) (tCons (tVar 3) (tCons (tC (.ref C2)) tNil)))) (tRet (tTup (tCons (tC (.str "wrong")) (tCons (tXf a cls d C2 "name" (tVar 3)) tNil)))) tNext)
  (tRet (tTup (tCons (tC (.str "other")) (tCons (tC (.str "")) tNil)))))
def spTold (C PR PC : Addr) : Sp := fun vs H Q _ => ∃ (v : V) (m : Msg 3) (lv : V) (rs : Rules) (dd : Addr) (args : List (Key × V)), vs = [v, lv, .ref dd] ∧ IsM 3 H v m ∧ Sh C PR PC H lv rs dd args none false ∧ Wf 3 false m ∧ RWays H (showM rs args 3 m none) Q
abbrev nTold : List Str := ["_law_message_here", "_law_language", "_law_arguments", "e"]
abbrev pTold : List Str := ["_law_message_here", "_law_language", "_law_arguments"]
theorem scTold : FnScope nTold pTold (defScope sTold) := ⟨rfl, rfl, rfl, by decide +kernel, rfl, by decide +kernel, by decide +kernel⟩
theorem look_nm {n : Str} : List.lookup ("name" : Str) [(("name" : Str), V.str n)] = some (V.str n) := by simp [List.lookup]
theorem ok_told {f C C0 C1 C2 i1 i2 PR PC : Addr} {fd : FuncData} (F : Fun K "_law_told" "_law_told" sTold f fd) (B : Bt mg) (R : Er P K mg C1 C2 i1 i2) (Z : Ec K mg C0 C1 C2) (GS : Dn P w K mg base (L2.CX P w) "shown" nShown 15 (spShown C C1 C2 PR PC)) :
    FnOk P w K mg base CX0 16 f fd pTold (spTold C PR PC) := by
  refine F.ok scTold (fun vs H Q E h => ?_) (fun cdv A outer s H vs Q E hr h => ?_)
  · obtain ⟨v, m, lv, rs, dd, args, rfl, _⟩ := h
    rfl
  obtain ⟨v, m, lv, rs, dd, args, rfl, hm, hs, hw, q⟩ := h
  have nd := scTold.nd
  have T1 : XfC K C1 := ⟨Z.e1.hg, Z.e1.hk, Z.e1.hs, Z.e1.hd⟩
  have T2 : XfC K C2 := ⟨Z.e2.hg, Z.e2.hk, Z.e2.hs, Z.e2.hd⟩
  refine ⟨_, pss_one (ps_try_as (i := 3) (tb := fun W => tRet (tCallS (spShown C C1 C2 PR PC) (WE W) (tCons (tVar 0) (tCons (tVar 1) (tCons (tVar 2) tNil))))) (ts := t_told K C1 C2) (Wout := fun _ _ _ _ => False) rfl rfl nd rfl rfl ⟨rfl, by decide, Or.inl Z.g0⟩ takes0
    (fun W pn xe tk _ => pss_one (ps_ret (pe_dnS GS hr rfl (fun σ => passAt tk σ) (pa_cons (pv 0) (pa_cons (pv 1) (pa_cons (pv 2) pa_nil))))))
    (fun a oe cls d pn hz hf => pss_cons (ps_if (pt_val (pe_callB (call_isEd hz hf) rfl B.isi (by decide +kernel) (pa_cons (pv 3) (pa_cons (pe_glob (v := .ref C1) rfl R.miss.gC rfl) pa_nil)))) (pss_one (ps_ret (pe_tup (pa_cons pe_str (pa_cons (pe_xf T1 R.miss.noN hz hf (pv 3)) pa_nil))))) pss_nil)
      (pss_cons (ps_if (pt_val (pe_callB (call_isEd hz hf) rfl B.isi (by decide +kernel) (pa_cons (pv 3) (pa_cons (pe_glob (v := .ref C2) rfl R.wrong.gC rfl) pa_nil)))) (pss_one (ps_ret (pe_tup (pa_cons pe_str (pa_cons (pe_xf T2 R.wrong.noN hz hf (pv 3)) pa_nil))))) pss_nil)
      (pss_one (ps_ret (pe_tup (pa_cons pe_str (pa_cons pe_str pa_nil)))))))), ?_⟩
  refine ⟨_, rfl, _, rfl, _, rfl, v, m, lv, rs, dd, args, rfl, hm, hs, hw, q.1, fun n e d H' t hd hx => ?_, fun n e d H' t hd hx => ?_⟩
  · refine ⟨true, Z.x1, fun _ a ha => ?_, fun z => nomatch z⟩
    refine ⟨_, rfl, C1, d, _, .ref C1, .ref C1, true, rfl, rfl, Z.e1, hx, rfl, fun u r => r, Z.k11, _, rfl, ite2 (fun _ => ?_) (fun z => absurd rfl z)⟩
    refine ⟨_, rfl, rfl, rfl, d, _, _, rfl, hx, look_nm, (by show 2 ≤ sizeLine; decide), fun tt htt => ?_⟩
    exact q.2 false n e tt _ (t.trans (Tk.new htt)) upd_same
  · refine ⟨true, Z.x2, fun _ a ha => ?_, fun z => nomatch z⟩
    refine ⟨_, rfl, C2, d, _, .ref C1, .ref C1, false, rfl, rfl, Z.e2, hx, rfl, fun u r => r, Z.k21, _, rfl, ite2 (fun z => Bool.noConfusion z) (fun _ => ?_)⟩
    refine ⟨_, rfl, C2, d, _, .ref C2, .ref C2, true, rfl, rfl, Z.e2, hx, rfl, fun u r => r, Z.k22, _, rfl, ite2 (fun _ => ?_) (fun z => absurd rfl z)⟩
    refine ⟨_, rfl, rfl, rfl, d, _, _, rfl, hx, look_nm, (by show 2 ≤ sizeLine; decide), fun tt htt => ?_⟩
    exact q.2 true n e tt _ (t.trans (Tk.new htt)) upd_same
end
end MW

set_option Elab.async false
set_option linter.all false
set_option maxRecDepth 100000
set_option maxHeartbeats 2000000
/-! W7: the box of digits; _law_draw, _law_string, _law_far. -/
namespace MW
open PySem PySem.Spec PyProof.Rows L2
open GA (Tk TG CodeT)
abbrev sDraw : Stmt := top 28
abbrev sString : Stmt := top 29
abbrev sFar : Stmt := top 40
/-- the box at b: its digits at dg are ns -/
structure Bx where
  b : Addr
  dg : Addr
  ns : List Int
structure Box (x : Bx) (H : Hp) : Prop where
  ne : x.dg ≠ x.b
  dig : H x.dg = some (.lst (x.ns.map V.int))
  len : x.ns.length ≤ 100000
  box : ∃ a : Int, 0 ≤ a ∧ H x.b = some (.lst [.ref x.dg, .int a])
/-- all but the box stays -/
structure Dw (x : Bx) (H H' : Hp) : Prop where
  kp : ∀ c o, c ≠ x.b → H c = some o → H' c = some o
  box : ∃ a : Int, 0 ≤ a ∧ H' x.b = some (.lst [.ref x.dg, .int a])
section
variable {x : Bx} {H H' H1 H2 H0 : Hp}
theorem Box.dw (h : Box x H) (d : Dw x H H') : Box x H' := ⟨h.ne, d.kp _ _ h.ne h.dig, h.len, d.box⟩
theorem Dw.refl (h : Box x H) : Dw x H H := ⟨fun _ _ _ e => e, h.box⟩
theorem Dw.trans (a : Dw x H H1) (b : Dw x H1 H2) : Dw x H H2 := ⟨fun c o n e => b.kp c o n (a.kp c o n e), b.box⟩
theorem Box.bat (h : Box x H) : H x.b ≠ none := by
  obtain ⟨a, _, e⟩ := h.box
  rw [e]
  intro z
  cases z
theorem Dw.bat (d : Dw x H H') : H' x.b ≠ none := by
  obtain ⟨a, _, e⟩ := d.box
  rw [e]
  intro z
  cases z
theorem Dw.free (d : Dw x H H') {c : Addr} (h : H' c = none) : H c = none := by
  cases e : H c with
  | none => rfl
  | some o =>
    by_cases hc : c = x.b
    · rw [hc] at h
      exact absurd h d.bat
    · rw [d.kp c o hc e] at h
      cases h
theorem Dw.new {p : Addr} {o : HO} (h : Box x H) (hp : H p = none) : Dw x H (upd H p o) := by
  obtain ⟨a, h0, e⟩ := h.box
  exact ⟨fun c u _ q => by rw [upd_ne (ne_of_none q hp)]; exact q, a, h0, by rw [upd_ne (ne_of_none e hp)]; exact e⟩
/-- a new list is written -/
theorem Dw.wr {p : Addr} {o : HO} (d : Dw x H0 H) (hb : H0 x.b ≠ none) (hp : H0 p = none) : Dw x H0 (upd H p o) := by
  obtain ⟨a, h0, e⟩ := d.box
  have nb : x.b ≠ p := fun z => hb (by rw [z]; exact hp)
  exact ⟨fun c u n q => by rw [upd_ne (ne_of_none q hp)]; exact d.kp c u n q, a, h0, by rw [upd_ne nb]; exact e⟩
theorem Dw.lst (d : Dw x H H') {p : Addr} {xs : List V} (h : H p = some (.lst xs)) (n : p ≠ x.b) : H' p = some (.lst xs) := d.kp _ _ n h
theorem Dw.tup (d : Dw x H H') (hb : Box x H) {p : Addr} {xs : List V} (h : H p = some (.tup xs)) : H' p = some (.tup xs) := by
  obtain ⟨a, _, e⟩ := hb.box
  exact d.kp _ _ (ne_of h e (by intro z; cases z)) h
end
/-- what is new in H over H0 -/
def fr (H0 H : Hp) : Hp := fun c => match H0 c with
  | none => H c
  | some _ => none
section
variable {x : Bx} {H H' H1 H2 H0 : Hp}
theorem fr_at {c : Addr} (h : H0 c = none) : fr H0 H c = H c := by simp only [fr, h]
theorem fr_some {c : Addr} {o : HO} (h : fr H0 H c = some o) : H0 c = none ∧ H c = some o := by
  unfold fr at h
  cases e : H0 c with
  | none => rw [e] at h; exact ⟨rfl, h⟩
  | some u => rw [e] at h; cases h
theorem fr_dw (d : Dw x H H') (hb : H0 x.b ≠ none) : Same (fr H0 H) (fr H0 H') := fun c o e => by
  obtain ⟨e1, e2⟩ := fr_some e
  rw [fr_at e1]
  exact d.kp c o (fun z => hb (by rw [← z]; exact e1)) e2
theorem fr_upd {p : Addr} {o : HO} (hp : H0 p ≠ none) : Same (fr H0 H) (fr H0 (upd H p o)) := fun c u e => by
  obtain ⟨e1, e2⟩ := fr_some e
  rw [fr_at e1, upd_ne (fun z => hp (by rw [← z]; exact e1))]
  exact e2
theorem fr_base (h : ∀ c, H1 c = none → H0 c = none) : Same (fr H1 H) (fr H0 H) := fun c o e => by
  obtain ⟨e1, e2⟩ := fr_some e
  rw [fr_at (h c e1)]
  exact e2
theorem fr_sub : Same (fr H0 H) H := fun c o e => (fr_some e).2
end
/-! ### picks -/
theorem atI_lt {α : Type} {xs : List α} {r : Int} (h0 : 0 ≤ r) (h : r < xs.length) : ∃ v, atI xs r = some v ∧ v ∈ xs := by
  obtain ⟨j, e⟩ : ∃ j : Nat, r = (j : Int) := ⟨r.toNat, by omega⟩
  subst e
  have hj : j < xs.length := by omega
  exact ⟨xs[j], atI_nat (List.getElem?_eq_getElem hj), List.getElem_mem hj⟩
section
variable {P : Program} {w : World} {K : PySem.W.Frag} {mg : Str → Option Value} {base : Heap}
/-! ### _law_draw -/
def spDraw : Sp := fun vs H Q _ => ∃ (x : Bx) (many : Int), vs = [.ref x.b, .int many] ∧ Box x H ∧ 0 < many ∧ ∀ (r : Int) (H' : Hp), 0 ≤ r → r < many → Dw x H H' → Q (.int r) H'
abbrev nDraw : List Str := ["_law_box", "_law_many", "_law_at"]
abbrev pDraw : List Str := ["_law_box", "_law_many"]
theorem scDraw : FnScope nDraw pDraw (defScope sDraw) := ⟨rfl, rfl, rfl, by decide +kernel, rfl, by decide +kernel, by decide +kernel⟩
theorem ok_draw {f : Addr} {fd : FuncData} (F : Fun K "_law_draw" "_law_draw" sDraw f fd) (B : Bt mg) : FnOk P w K mg base CX0 1 f fd pDraw spDraw := by
  refine F.ok scDraw (fun vs H Q E h => ?_) (fun cdv A outer s H vs Q E hr h => ?_)
  · obtain ⟨x, many, rfl, _⟩ := h
    rfl
  obtain ⟨x, many, rfl, hB, hm, q⟩ := h
  have nd := scDraw.nd
  obtain ⟨a, h0, hb⟩ := hB.box
  refine ⟨_, pss_cons (ps_set (i := 2) nd rfl (Or.inl rfl) (pe_ix ix_list (pv 0) pe_int (fun _ _ => rfl)))
    (pss_cons (ps_asg (pe_op op_add (pv 2) pe_int) (pg_sub (pv 0) pe_int set_list))
    (pss_cons (ps_if (pt_cmpR op_lt (pv 2) (pe_callB call_len_seq rfl B.len PySem.boot_len (pa_cons (pe_ix ix_list (pv 0) pe_int (fun _ _ => rfl)) pa_nil)) (nomark _))
      (pss_one (ps_ret (pe_op op_modN (pe_callTy call_int1 rfl B.int (by decide +kernel) (pa_cons (pe_ix ix_list (pe_ix ix_list (pv 0) pe_int (fun _ _ => rfl)) (pv 2) (fun _ _ => rfl)) pa_nil)) (pv 1)))) pss_nil)
    (pss_one (ps_ret pe_int)))), ?_⟩
  have d : Dw x H (upd H x.b (.lst [.ref x.dg, .int (a + 1)])) := ⟨fun c o n e => by rw [upd_ne n]; exact e, a + 1, by omega, upd_same⟩
  have hd : upd H x.b (.lst [.ref x.dg, .int (a + 1)]) x.dg = some (.lst (x.ns.map V.int)) := d.kp _ _ hB.ne hB.dig
  refine ⟨_, rfl, x.b, _, _, _, rfl, rfl, SqL.of hb, (by rfl), _, rfl, _, _, rfl, rfl, _, rfl, x.b, _, _, 1, rfl, rfl, hb, (by rfl), ?_⟩
  refine ⟨_, rfl, _, rfl, x.b, _, _, _, rfl, rfl, SqL.of upd_same, (by rfl), x.dg, _, rfl, .inl (SqL.of hd), _, _, rfl, rfl, _, rfl, ?_⟩
  refine ite2 (fun c => ?_) (fun c => ?_)
  · have c' : a < ((x.ns.map V.int).length : Int) := of_decide_eq_true c
    obtain ⟨v, hv, hm2⟩ := atI_lt h0 c'
    obtain ⟨i, _, rfl⟩ := List.mem_map.mp hm2
    refine ⟨_, rfl, x.b, _, _, _, rfl, rfl, SqL.of upd_same, (by rfl), _, rfl, x.dg, _, _, _, rfl, rfl, SqL.of hd, hv, .inl ⟨_, rfl, _, rfl, _, _, rfl, rfl, (by omega), ?_⟩⟩
    exact q _ _ (Int.fmod_nonneg_of_pos _ hm) (Int.fmod_lt_of_pos _ hm) d
  · exact q 0 _ (Int.le_refl _) hm d
/-! ### _law_string -/
def spString : Sp := fun vs H Q _ => ∃ x : Bx, vs = [.ref x.b] ∧ Box x H ∧ ∀ (s : Str) (H' : Hp), SOk s → Dw x H H' → Q (.str s) H'
theorem scString : FnScope ["_law_box"] ["_law_box"] (defScope sString) := ⟨rfl, rfl, rfl, by decide +kernel, rfl, by decide +kernel, by decide +kernel⟩
theorem ok_string {f : Addr} {fd : FuncData} (F : Fun K "_law_string" "_law_string" sString f fd) (G : Dn P w K mg base CX0 "_law_draw" pDraw 1 spDraw) : FnOk P w K mg base CX0 2 f fd ["_law_box"] spString := by
  refine F.ok scString (fun vs H Q E h => ?_) (fun cdv A outer s H vs Q E hr h => ?_)
  · obtain ⟨x, rfl, _⟩ := h
    rfl
  obtain ⟨x, rfl, hB, q⟩ := h
  refine ⟨_, pss_one (ps_ret (pe_ix ix_list (pe_lst (pa_cons pe_str (pa_cons pe_str (pa_cons pe_str (pa_cons pe_str (pa_cons pe_str (pa_cons pe_str (pa_cons pe_str (pa_cons pe_str (pa_cons pe_str (pa_cons pe_str pa_nil)))))))))))
    (pe_dn G hr rfl (pa_cons (pv 0) (pa_cons pe_int pa_nil))) (fun _ _ => rfl))), ?_⟩
  refine ⟨(by show 10 ≤ sizeLine; decide), fun l hl => ?_⟩
  have d := Dw.new (o := .lst [V.str "a", V.str "b ", V.str " files", V.str "'", V.str "{x}", V.str "#", V.str "a'{'", V.str "1\n2", V.str "other {", V.str "~"]) hB hl
  refine ⟨_, rfl, x, 10, rfl, hB.dw d, by decide, fun r H' r0 r1 d2 => ?_⟩
  have hl2 := d2.lst (xs := [V.str "a", V.str "b ", V.str " files", V.str "'", V.str "{x}", V.str "#", V.str "a'{'", V.str "1\n2", V.str "other {", V.str "~"]) upd_same (fun z => hB.bat (by rw [← z]; exact hl))
  obtain ⟨v, hv, hm⟩ := atI_lt (xs := [V.str "a", V.str "b ", V.str " files", V.str "'", V.str "{x}", V.str "#", V.str "a'{'", V.str "1\n2", V.str "other {", V.str "~"]) r0 r1
  have hs : ∃ s, v = V.str s ∧ SOk s := by
    simp only [List.mem_cons, List.not_mem_nil, or_false] at hm
    rcases hm with rfl | rfl | rfl | rfl | rfl | rfl | rfl | rfl | rfl | rfl <;> exact ⟨_, rfl, by decide +kernel, by decide +kernel⟩
  obtain ⟨s, rfl, hs⟩ := hs
  exact ⟨l, _, _, _, rfl, rfl, SqL.of hl2, hv, q s H' hs (d.trans d2)⟩
/-! ### _law_far -/
def spFar : Sp := fun vs H Q _ => ∃ x : Bx, vs = [.ref x.b] ∧ Box x H ∧ ∀ (i : Int) (H' : Hp), 0 ≤ i → i < 10 ^ 13 → Dw x H H' → Q (.int i) H'
theorem scFar : FnScope ["_law_box"] ["_law_box"] (defScope sFar) := ⟨rfl, rfl, rfl, by decide +kernel, rfl, by decide +kernel, by decide +kernel⟩
theorem ok_far {f : Addr} {fd : FuncData} (F : Fun K "_law_far" "_law_far" sFar f fd) (G : Dn P w K mg base CX0 "_law_draw" pDraw 1 spDraw) : FnOk P w K mg base CX0 2 f fd ["_law_box"] spFar := by
  refine F.ok scFar (fun vs H Q E h => ?_) (fun cdv A outer s H vs Q E hr h => ?_)
  · obtain ⟨x, rfl, _⟩ := h
    rfl
  obtain ⟨x, rfl, hB, q⟩ := h
  refine ⟨_, pss_one (ps_ret (pe_ix ix_list (pe_lst (pa_cons (pe_dn G hr rfl (pa_cons (pv 0) (pa_cons pe_int pa_nil))) (pa_cons (pe_dn G hr rfl (pa_cons (pv 0) (pa_cons pe_int pa_nil)))
    (pa_cons (pe_op op_add (pe_op op_mul (pe_dn G hr rfl (pa_cons (pv 0) (pa_cons pe_int pa_nil))) pe_int) (pe_dn G hr rfl (pa_cons (pv 0) (pa_cons pe_int pa_nil)))) pa_nil))))
    (pe_dn G hr rfl (pa_cons (pv 0) (pa_cons pe_int pa_nil))) (fun _ _ => rfl))), ?_⟩
  refine ⟨_, rfl, x, 40, rfl, hB, by decide, fun r1 H1 l1 u1 d1 => ?_⟩
  have B1 := hB.dw d1
  refine ⟨_, rfl, x, 1000, rfl, B1, by decide, fun r2 H2 l2 u2 d2 => ?_⟩
  have B2 := B1.dw d2
  refine ⟨_, rfl, x, 1000, rfl, B2, by decide, fun r3 H3 l3 u3 d3 => ?_⟩
  have B3 := B2.dw d3
  refine ⟨_, _, rfl, rfl, .inl ⟨by omega, by omega⟩, _, rfl, x, 1000, rfl, B3, by decide, fun r4 H4 l4 u4 d4 => ?_⟩
  have B4 := B3.dw d4
  refine ⟨_, _, rfl, rfl, (by show 3 ≤ sizeLine; decide), fun l hl => ?_⟩
  have d5 := Dw.new (o := .lst [V.int r1, V.int r2, V.int (r3 * 1000000007 + r4)]) B4 hl
  refine ⟨_, rfl, x, 3, rfl, B4.dw d5, by decide, fun r H' r0 ru d6 => ?_⟩
  have hl2 := d6.lst (xs := [V.int r1, V.int r2, V.int (r3 * 1000000007 + r4)]) upd_same (fun z => B4.bat (by rw [← z]; exact hl))
  obtain ⟨v, hv, hm⟩ := atI_lt (xs := [V.int r1, V.int r2, V.int (r3 * 1000000007 + r4)]) r0 ru
  have hs : ∃ i, v = V.int i ∧ 0 ≤ i ∧ i < 10 ^ 13 := by
    simp only [List.mem_cons, List.not_mem_nil, or_false] at hm
    rcases hm with rfl | rfl | rfl <;> exact ⟨_, rfl, by omega, by omega⟩
  obtain ⟨i, rfl, i0, i1⟩ := hs
  exact ⟨l, _, _, _, rfl, rfl, SqL.of hl2, hv, q i H' i0 i1 ((d1.trans d2).trans (d3.trans (d4.trans (d5.trans d6))))⟩
end
end MW

set_option Elab.async false
set_option linter.all false
set_option maxRecDepth 100000
set_option maxHeartbeats 2000000
/-! W8: the drawn messages: lists under construction. -/
namespace MW
open PySem PySem.Spec PyProof.Rows L2
open GA (Tk TG CodeT)
/-- from Hs on, over the base H0 (Hs and what is under construction) -/
structure Wk (x : Bx) (Hs H0 H : Hp) : Prop where
  box : Box x Hs
  dw : Dw x Hs H
  dom : ∀ c, H c = none → H0 c = none
  b0 : H0 x.b ≠ none
  low : ∀ c, H0 c = none → Hs c = none
section
variable {x : Bx} {Hs H0 H H' H1 : Hp}
theorem Wk.step (h : Wk x Hs H0 H) (d : Dw x H H') : Wk x Hs H0 H' := ⟨h.box, h.dw.trans d, fun c e => h.dom c (d.free e), h.b0, h.low⟩
theorem Wk.same (h : Wk x Hs H0 H) (d : Dw x H H') : Same (fr H0 H) (fr H0 H') := fr_dw d h.b0
theorem Wk.cur (h : Wk x Hs H0 H) : Box x H := h.box.dw h.dw
theorem Wk.new (h : Wk x Hs H0 H) {p : Addr} {o : HO} (hp : H p = none) : Wk x Hs H0 (upd H p o) := h.step (Dw.new h.cur hp)
theorem Wk.newAt (h : Wk x Hs H0 H) {p : Addr} {o : HO} (hp : H p = none) : fr H0 (upd H p o) p = some o := by
  rw [fr_at (h.dom p hp)]
  exact upd_same
theorem Wk.wr (h : Wk x Hs H0 H) {p : Addr} {o : HO} (hp : Hs p = none) (h0 : H0 p ≠ none) : Wk x Hs H0 (upd H p o) :=
  ⟨h.box, Dw.wr h.dw h.box.bat hp, fun c e => by
    by_cases hc : c = p
    · rw [hc, upd_same] at e
      cases e
    · rw [upd_ne hc] at e
      exact h.dom c e, h.b0, h.low⟩
theorem Wk.up (h : Wk x Hs H0 H) : Same (fr H0 H) (fr Hs H) := fr_base h.low
/-- a list is made and is under construction -/
theorem Wk.start {p : Addr} {o : HO} (hB : Box x Hs) (hp : Hs p = none) : Wk x Hs (upd Hs p o) (upd Hs p o) :=
  ⟨hB, Dw.new hB hp, fun _ e => e, (hB.dw (Dw.new hB hp)).bat, fun c e => by
    by_cases hc : c = p
    · rw [hc, upd_same] at e
      cases e
    · rw [upd_ne hc] at e
      exact e⟩
/-- a further list -/
theorem Wk.more (h : Wk x Hs H0 H) {l : Addr} {o : HO} (hl : H l = none) : Wk x Hs (upd H0 l o) (upd H l o) :=
  ⟨h.box, h.dw.trans (Dw.new h.cur hl), fun c e => by
    by_cases hc : c = l
    · rw [hc, upd_same] at e
      cases e
    · rw [upd_ne hc] at e ⊢
      exact h.dom c e, by rw [upd_ne (fun z => h.dw.bat (by rw [z]; exact hl))]; exact h.b0, fun c e => by
    by_cases hc : c = l
    · rw [hc, upd_same] at e
      cases e
    · rw [upd_ne hc] at e
      exact h.low c e⟩
end
/-! ### cases under construction -/
structure CsI (p : Addr) (k : Nat) (b : Bool) (keys : List Key) (H0 H : Hp) (ps : List Addr) (kvs : List (Key × V)) (cs : List (Key × Msg k)) : Prop where
  hp : H p = some (.lst (ps.map V.ref))
  p1 : Paired (fun p kv => fr H0 H p = some (.tup [kV kv.1, kv.2])) ps kvs
  p2 : Paired (fun kv km => kv.1 = km.1 ∧ IsM k (fr H0 H) kv.2 km.2) kvs cs
  sub : (cs.map (·.1)).Sublist keys
  wf : ∀ kv ∈ cs, Wf k b kv.2
section
variable {x : Bx} {Hs H0 H H' H1 : Hp} {p : Addr} {k : Nat} {b : Bool} {keys : List Key} {ps : List Addr} {kvs : List (Key × V)} {cs : List (Key × Msg k)}
theorem CsI.step (c : CsI p k b keys H0 H ps kvs cs) (hb : H0 x.b ≠ none) (hn : p ≠ x.b) (d : Dw x H H') : CsI p k b keys H0 H' ps kvs cs :=
  ⟨d.lst c.hp hn, Paired.mapP c.p1 fun _ _ z => fr_dw d hb _ _ z, Paired.mapP c.p2 fun _ _ z => ⟨z.1, z.2.mn (Mn.same (fr_dw d hb))⟩, c.sub, c.wf⟩
theorem CsI.more (c : CsI p k b keys H0 H ps kvs cs) {key : Key} : CsI p k b (keys ++ [key]) H0 H ps kvs cs := ⟨c.hp, c.p1, c.p2, c.sub.trans (List.sublist_append_left _ _), c.wf⟩
/-- one more case: its tuple at t, new -/
theorem CsI.add (c : CsI p k b keys H0 H ps kvs cs) (hk : Wk x Hs H0 H) (h0 : H0 p ≠ none) {key : Key} {t : Addr} {v : V} {m : Msg k} (ht : H t = none) (hm : IsM k (fr H0 H) v m) (hw : Wf k b m) {acc : List V} (ha : upd H t (.tup [kV key, v]) p = some (.lst acc)) :
    acc.length = cs.length ∧ CsI p k b (keys ++ [key]) H0 (upd (upd H t (.tup [kV key, v])) p (.lst (acc ++ [.ref t]))) (ps ++ [t]) (kvs ++ [(key, v)]) (cs ++ [(key, m)]) := by
  have np : p ≠ t := ne_of_none c.hp ht
  rw [upd_ne np, c.hp] at ha
  cases ha
  have s1 : Same (fr H0 H) (fr H0 (upd H t (.tup [kV key, v]))) := hk.same (Dw.new hk.cur ht)
  have s2 : Same (fr H0 (upd H t (.tup [kV key, v]))) (fr H0 (upd (upd H t (.tup [kV key, v])) p (.lst (ps.map V.ref ++ [.ref t])))) := fr_upd h0
  have s := s1.trans s2
  refine ⟨by rw [List.length_map, Paired.len c.p1, Paired.len c.p2], ?_, ?_, ?_, ?_, ?_⟩
  · rw [upd_same, List.map_append]
    rfl
  · exact Paired.add (Paired.mapP c.p1 fun _ _ z => s _ _ z) (s2 _ _ (hk.newAt ht))
  · exact Paired.add (Paired.mapP c.p2 fun _ _ z => ⟨z.1, z.2.mn (Mn.same s)⟩) ⟨rfl, hm.mn (Mn.same s)⟩
  · rw [List.map_append]
    exact List.Sublist.append c.sub (List.Sublist.refl _)
  · intro kv hkv
    rcases List.mem_append.mp hkv with z | z
    · exact c.wf kv z
    · rw [List.mem_singleton.mp z]
      exact hw
end
/-! ### cases, made -/
structure CsF (p : Addr) (k : Nat) (b : Bool) (H0 H : Hp) (ps : List Addr) (kvs : List (Key × V)) (cs : List (Key × Msg k)) : Prop where
  hp : H p = some (.lst (ps.map V.ref))
  p1 : Paired (fun p kv => fr H0 H p = some (.tup [kV kv.1, kv.2])) ps kvs
  p2 : Paired (fun kv km => kv.1 = km.1 ∧ IsM k (fr H0 H) kv.2 km.2) kvs cs
  len : cs.length ≤ 10
  nd : (cs.map (·.1)).Nodup
  ok : ∀ kv ∈ cs, KOk kv.1
  wf : ∀ kv ∈ cs, Wf k b kv.2
theorem Paired.rev {α β : Type} {F : α → β → Prop} : ∀ {l₁ : List α} {l₂ : List β}, Paired F l₁ l₂ → Paired F l₁.reverse l₂.reverse
  | _, _, .nil => .nil
  | _, _, .cons h t => by
    rw [List.reverse_cons, List.reverse_cons]
    exact Paired.add (Paired.rev t) h
section
variable {x : Bx} {Hs H0 H H' H1 : Hp} {p : Addr} {k : Nat} {b : Bool} {keys : List Key} {ps : List Addr} {kvs : List (Key × V)} {cs : List (Key × Msg k)}
theorem CsI.fin (c : CsI p k b keys H0 H ps kvs cs) (hl : keys.length ≤ 10) (hn : keys.Nodup) (ho : ∀ k ∈ keys, KOk k) : CsF p k b H0 H ps kvs cs :=
  ⟨c.hp, c.p1, c.p2, by have := c.sub.length_le; rw [List.length_map] at this; omega, c.sub.nodup hn, fun kv h => ho _ (c.sub.subset (List.mem_map.mpr ⟨kv, h, rfl⟩)), c.wf⟩
theorem CsF.step (c : CsF p k b H0 H ps kvs cs) (hb : H0 x.b ≠ none) (hn : p ≠ x.b) (d : Dw x H H') : CsF p k b H0 H' ps kvs cs :=
  ⟨d.lst c.hp hn, Paired.mapP c.p1 fun _ _ z => fr_dw d hb _ _ z, Paired.mapP c.p2 fun _ _ z => ⟨z.1, z.2.mn (Mn.same (fr_dw d hb))⟩, c.len, c.nd, c.ok, c.wf⟩
theorem CsF.rev (c : CsF p k b H0 H ps kvs cs) (h0 : H0 p ≠ none) : CsF p k b H0 (upd H p (.lst (ps.map V.ref).reverse)) ps.reverse kvs.reverse cs.reverse := by
  have s : Same (fr H0 H) (fr H0 (upd H p (.lst (ps.map V.ref).reverse))) := fr_upd h0
  refine ⟨?_, ?_, ?_, ?_, ?_, ?_, ?_⟩
  · rw [upd_same, List.map_reverse]
  · exact Paired.rev (Paired.mapP c.p1 fun _ _ z => s _ _ z)
  · exact Paired.rev (Paired.mapP c.p2 fun _ _ z => ⟨z.1, z.2.mn (Mn.same s)⟩)
  · rw [List.length_reverse]
    exact c.len
  · rw [List.map_reverse]
    exact List.pairwise_reverse.mpr (List.Pairwise.imp (fun h => Ne.symm h) c.nd)
  · intro kv h
    exact c.ok kv (List.mem_reverse.mp h)
  · intro kv h
    exact c.wf kv (List.mem_reverse.mp h)
/-- as they stand in what is new since the def began -/
theorem CsF.is (c : CsF p k b H0 H ps kvs cs) (hk : Wk x Hs H0 H) (hp : Hs p = none) : IsCs (IsM k (fr Hs H)) (fr Hs H) p kvs cs :=
  ⟨ps, by rw [fr_at hp]; exact c.hp, Paired.mapP c.p1 fun _ _ z => hk.up _ _ z, Paired.mapP c.p2 fun _ _ z => ⟨z.1, z.2.mn (Mn.same hk.up)⟩⟩
end
/-! ### nodes under construction -/
structure MsI (p : Addr) (k : Nat) (b : Bool) (n : Nat) (H0 H : Hp) (acc : List V) (nds : List (Nd (Msg k))) : Prop where
  hp : H p = some (.lst acc)
  pr : Paired (IsNd (IsM k (fr H0 H)) (fr H0 H)) acc nds
  wf : ∀ nd ∈ nds, WfN (Wf k) b nd
  len : nds.length ≤ n
section
variable {x : Bx} {Hs H0 H H' H1 : Hp} {p : Addr} {k n : Nat} {b : Bool} {acc : List V} {nds : List (Nd (Msg k))}
theorem MsI.step (c : MsI p k b n H0 H acc nds) (hb : H0 x.b ≠ none) (hn : p ≠ x.b) (d : Dw x H H') : MsI p k b n H0 H' acc nds :=
  ⟨d.lst c.hp hn, Paired.mapP c.pr fun _ _ z => z.mn (Mn.same (fr_dw d hb)) fun _ _ q => q.mn (Mn.same (fr_dw d hb)), c.wf, c.len⟩
theorem MsI.more (c : MsI p k b n H0 H acc nds) : MsI p k b (n + 1) H0 H acc nds := ⟨c.hp, c.pr, c.wf, Nat.le_succ_of_le c.len⟩
theorem MsI.add (c : MsI p k b n H0 H acc nds) (h0 : H0 p ≠ none) {v : V} {nd : Nd (Msg k)} (hv : IsNd (IsM k (fr H0 H)) (fr H0 H) v nd) (hw : WfN (Wf k) b nd) : MsI p k b (n + 1) H0 (upd H p (.lst (acc ++ [v]))) (acc ++ [v]) (nds ++ [nd]) := by
  have s : Mn (fr H0 H) (fr H0 (upd H p (.lst (acc ++ [v])))) := Mn.same (fr_upd h0)
  refine ⟨upd_same, Paired.add (Paired.mapP c.pr fun _ _ z => z.mn s fun _ _ q => q.mn s) (hv.mn s fun _ _ q => q.mn s), fun nd' h => ?_, ?_⟩
  · rcases List.mem_append.mp h with z | z
    · exact c.wf _ z
    · rw [List.mem_singleton.mp z]
      exact hw
  · rw [List.length_append, List.length_singleton]
    exact Nat.succ_le_succ c.len
/-- a node's first item is a text -/
theorem tag_of {R : V → Msg k → Prop} {v : V} : ∀ {nd : Nd (Msg k)}, IsNd R H v nd → ∃ (q : Addr) (s : Str) (rest : List V), v = .ref q ∧ H q = some (.tup (.str s :: rest))
  | .txt s, ⟨p, e, h⟩ => ⟨p, _, _, e, h⟩
  | .shw n, ⟨p, e, h⟩ => ⟨p, _, _, e, h⟩
  | .num, ⟨p, e, h⟩ => ⟨p, _, _, e, h⟩
  | .sel n cs o, ⟨p, c, kvs, w, e, h, _⟩ => ⟨p, _, _, e, h⟩
  | .plu n off cs o, ⟨p, c, kvs, w, e, h, _⟩ => ⟨p, _, _, e, h⟩
end
end MW

set_option Elab.async false
set_option linter.all false
set_option maxRecDepth 100000
set_option maxHeartbeats 2000000
/-! W9: _law_select, _law_plural, _law_message. -/
namespace MW
open PySem PySem.Spec PyProof.Rows L2
open GA (Tk TG CodeT)
abbrev sSelD : Stmt := top 30
abbrev sPluD : Stmt := top 31
abbrev sMsgD : Stmt := top 32
def spMk (k : Nat) : Sp := fun vs H Q _ => ∃ (x : Bx) (dp : Int) (b : Bool), vs = [.ref x.b, .int dp, .bl b] ∧ dp = k ∧ Box x H ∧ ∀ (v : V) (m : Msg (k + 1)) (H' : Hp), Dw x H H' → IsM (k + 1) (fr H H') v m → Wf (k + 1) b m → Q v H'
def spSelD (k : Nat) : Sp := fun vs H Q _ => ∃ (x : Bx) (dp : Int) (b : Bool), vs = [.ref x.b, .int dp, .bl b] ∧ dp = k ∧ 1 ≤ k ∧ Box x H ∧ ∀ (v : V) (nd : Nd (Msg k)) (H' : Hp), Dw x H H' → IsNd (IsM k (fr H H')) (fr H H') v nd → WfN (Wf k) b nd → Q v H'
def spPluD (k : Nat) : Sp := fun vs H Q _ => ∃ (x : Bx) (dp : Int), vs = [.ref x.b, .int dp] ∧ dp = k ∧ 1 ≤ k ∧ Box x H ∧ ∀ (v : V) (nd : Nd (Msg k)) (H' : Hp), Dw x H H' → IsNd (IsM k (fr H H')) (fr H H') v nd → (∀ b, WfN (Wf k) b nd) → Q v H'
abbrev pMk : List Str := ["_law_box", "_law_depth", "_law_inside"]
abbrev pPl : List Str := ["_law_box", "_law_depth"]
abbrev nSelD : List Str := ["_law_box", "_law_depth", "_law_inside", "_law_cases", "_law_word"]
abbrev nPluD : List Str := ["_law_box", "_law_depth", "_law_cases", "_law_key"]
abbrev nMsgD : List Str := ["_law_box", "_law_depth", "_law_inside", "_law_message_here", "_law_turn", "_law_kind"]
theorem take_at {α : Type} {xs : List α} {i : Nat} {a : α} (h : xs[i]? = some a) : xs.take (i + 1) = xs.take i ++ [a] := by
  obtain ⟨hi, e⟩ := List.getElem?_eq_some_iff.mp h
  rw [List.take_succ_eq_append_getElem hi, e]
abbrev selKeys : List Key := [.inr "a", .inr "one", .inr "select"]
abbrev pluKeys : List Key := [.inl 0, .inl 1, .inl 2, .inl 12, .inr "zero", .inr "one", .inr "two", .inr "few", .inr "many"]
theorem key_at {keys : List Key} {i : Nat} {y : V} (h : (keys.map kV)[i]? = some y) : ∃ k, keys[i]? = some k ∧ y = kV k := by
  rw [List.getElem?_map] at h
  obtain ⟨k, h1, h2⟩ := Option.map_eq_some_iff.mp h
  exact ⟨k, h1, h2.symm⟩
theorem selKeys_ok : selKeys.Nodup ∧ ∀ k ∈ selKeys, KOk k := by
  refine ⟨by decide +kernel, fun k h => ?_⟩
  simp only [List.mem_cons, List.not_mem_nil, or_false] at h
  rcases h with rfl | rfl | rfl <;> (change PyData.strOk _ = true; decide +kernel)
theorem pluKeys_ok : pluKeys.Nodup ∧ ∀ k ∈ pluKeys, KOk k := by
  refine ⟨by decide +kernel, fun k h => ?_⟩
  simp only [List.mem_cons, List.not_mem_nil, or_false] at h
  rcases h with rfl | rfl | rfl | rfl | rfl | rfl | rfl | rfl | rfl <;> first | exact True.intro | (change PyData.strOk _ = true; decide +kernel)
section
variable {P : Program} {w : World} {K : PySem.W.Frag} {mg : Str → Option Value} {base : Heap}
theorem scSelD : FnScope nSelD pMk (defScope sSelD) := ⟨rfl, rfl, rfl, by decide +kernel, rfl, by decide +kernel, by decide +kernel⟩
theorem scPluD : FnScope nPluD pPl (defScope sPluD) := ⟨rfl, rfl, rfl, by decide +kernel, rfl, by decide +kernel, by decide +kernel⟩
theorem scMsgD : FnScope nMsgD pMk (defScope sMsgD) := ⟨rfl, rfl, rfl, by decide +kernel, rfl, by decide +kernel, by decide +kernel⟩
theorem ok_selD {f : Addr} {fd : FuncData} {j L : Nat} (hL : 1 ≤ L) (F : Fun K "_law_select" "_law_select" sSelD f fd) (GD : Dn P w K mg base CX0 "_law_draw" pDraw 1 spDraw) (GM : Dn P w K mg base CX0 "_law_message" pMk L (spMk j)) :
    FnOk P w K mg base CX0 (L + 1) f fd pMk (spSelD (j + 1)) := by
  refine F.ok scSelD (fun vs H Q E h => ?_) (fun cdv A outer s H vs Q E hr h => ?_)
  · obtain ⟨x, dp, b, rfl, _⟩ := h
    rfl
  obtain ⟨x, dp, b, rfl, hdp, _, hB, q⟩ := h
  have nd := scSelD.nd
  have hr1 := hr.mono (j := 1) hL
  refine ⟨_, pss_cons (ps_set (i := 3) nd rfl (Or.inl rfl) (pe_lst pa_nil))
    (pss_cons (ps_for PassesOwn.never rfl (pi_list (pe_lst (pa_cons pe_str (pa_cons pe_str (pa_cons pe_str pa_nil))))) (pg_name (i := 4) nd rfl (Or.inl rfl))
      (pss_one (ps_if (pt_cmpR op_eq (pe_dn GD hr1 rfl (pa_cons (pv 0) (pa_cons pe_int pa_nil))) pe_int (nomark _))
        (pss_one (ps_expr (pe_bm PySem.F.plainAttrs_list PySem.F.slot_list_append PySem.F.type_list_append mt_append (pv 3) (pa_cons (pe_tup (pa_cons (pv 4) (pa_cons (pe_dn GM hr rfl (pa_cons (pv 0) (pa_cons (pe_op op_sub (pv 1) pe_int) (pa_cons (pv 2) pa_nil)))) pa_nil))) pa_nil)))) pss_nil)))
    (pss_one (ps_ret (pe_tup (pa_cons pe_str (pa_cons (pe_ix ix_list (pe_lst (pa_cons pe_str (pa_cons pe_str pa_nil))) (pe_dn GD hr1 rfl (pa_cons (pv 0) (pa_cons pe_int pa_nil))) (fun _ _ => rfl))
      (pa_cons (pv 3) (pa_cons (pe_dn GM hr rfl (pa_cons (pv 0) (pa_cons (pe_op op_sub (pv 1) pe_int) (pa_cons (pv 2) pa_nil)))) pa_nil)))))))), ?_⟩
  refine ⟨(by show 0 ≤ sizeLine; decide), fun p hp => ?_⟩
  have np : p ≠ x.b := fun z => hB.bat (by rw [← z]; exact hp)
  have k1 := Wk.start (o := .lst []) hB hp
  refine ⟨(by show 3 ≤ sizeLine; decide), fun l hl => ?_⟩
  have nl : l ≠ x.b := fun z => k1.dw.bat (by rw [← z]; exact hl)
  have npl : p ≠ l := ne_of_none upd_same hl
  have k2 := k1.more (o := .lst (selKeys.map kV)) hl
  refine ⟨l, rfl, ⟨_, SqL.of upd_same⟩, ?_⟩
  have hp0 : (upd (upd H p (.lst [])) l (.lst (selKeys.map kV))) p ≠ none := by
    rw [upd_ne npl, upd_same]
    intro z
    cases z
  have hl0 : (upd (upd H p (.lst [])) l (.lst (selKeys.map kV))) l = some (.lst (selKeys.map kV)) := upd_same
  have c0 : CsI p (j + 1) b (selKeys.take 0) (upd (upd H p (.lst [])) l (.lst (selKeys.map kV))) (upd (upd H p (.lst [])) l (.lst (selKeys.map kV))) [] [] [] := ⟨by rw [upd_ne npl, upd_same]; rfl, .nil, .nil, List.Sublist.refl _, fun _ z => absurd z (by simp)⟩
  generalize hH0 : upd (upd H p (.lst [])) l (.lst (selKeys.map kV)) = H0 at k2 hp0 hl0 c0
  have gH0 : upd (upd H p (.lst [])) l (.lst [V.str "a", V.str "one", V.str "select"]) = H0 := hH0
  refine for_list (K := K) (a := l) (xs := selKeys.map kV) (fun i σ H' => ∃ (o4 : Option V) (ps : List Addr) (kvs : List (Key × V)) (cs : List (Key × Msg (j + 1))), σ = [some (.ref x.b), some (.int dp), some (.bl b), some (.ref p), o4] ∧ Wk x H H0 H' ∧ H' l = some (.lst (selKeys.map kV)) ∧
      CsI p (j + 1) b (selKeys.take i) H0 H' ps kvs cs)
    ⟨none, [], [], [], rfl, ?_, ?_, ?_⟩ (fun i σ H' _ ⟨_, _, _, _, _, _, e, _⟩ => SqL.of e) ?_ ?_
  · rw [show upd (upd H p (.lst [])) l (.lst [V.str "a", V.str "one", V.str "select"]) = H0 from hH0]; exact k2
  · exact upd_same
  · rw [show upd (upd H p (.lst [])) l (.lst [V.str "a", V.str "one", V.str "select"]) = H0 from hH0]; exact c0
  · rintro i y σ H' hy ⟨o4, ps, kvs, cs, rfl, hk, hl', c⟩
    obtain ⟨key, hkey, rfl⟩ := key_at hy
    have et := take_at hkey
    refine ⟨_, rfl, x, 3, rfl, hk.cur, by decide, fun r H3 r0 r1 d => ?_⟩
    have hk3 := hk.step d
    have c3 := c.step hk.b0 np d
    have hl3 := d.lst hl' nl
    refine ⟨rfl, _, rfl, ite2 (fun _ => ?_) (fun _ => ?_)⟩
    · refine ⟨_, rfl, .inl ⟨rfl, _, SqL.of c3.hp⟩, _, rfl, _, rfl, _, rfl, _, _, rfl, rfl, _, rfl, x, _, b, rfl, by omega, hk3.cur, fun v m H4 d4 hm hw => ⟨(by show 2 ≤ sizeLine; decide), fun t ht => ?_⟩⟩
      have hk4 := hk3.step d4
      have c4 := c3.step hk3.b0 np d4
      have hm4 := hm.mn (Mn.same (fr_base (H := H4) hk3.dom))
      have ht2 : upd H4 t (.tup [kV key, v]) p = some (.lst (ps.map V.ref)) := by rw [upd_ne (ne_of_none c4.hp ht)]; exact c4.hp
      obtain ⟨hlen, c5⟩ := c4.add hk4 hp0 ht hm4 hw ht2
      have hlen2 := c4.sub.length_le
      rw [List.length_map, List.length_take] at hlen2
      have hsz : (ps.map V.ref).length < sizeLine := small1000 (by have := Nat.min_le_right i selKeys.length; have e3 : selKeys.length = 3 := rfl; omega)
      refine ⟨p, _, _, rfl, rfl, ht2, hsz, _, _, _, _, rfl, (hk4.new ht).wr hp hp0, ?_, by rw [et]; exact c5⟩
      rw [upd_ne npl.symm, upd_ne (ne_of_none (d4.lst hl3 nl) ht)]
      exact d4.lst hl3 nl
    · exact ⟨_, _, _, _, rfl, hk3, hl3, by rw [et]; exact c3.more⟩
  · rintro σ H5 ⟨o4, ps, kvs, cs, rfl, hk, hl', c⟩
    have cF := CsI.fin (keys := selKeys) c (by decide) selKeys_ok.1 selKeys_ok.2
    refine ⟨(by show 2 ≤ sizeLine; decide), fun l2 hl2 => ?_⟩
    have dn := Dw.new (o := .lst [V.str "w", V.str "kind"]) hk.cur hl2
    refine ⟨_, rfl, x, 2, rfl, hk.cur.dw dn, by decide, fun r H6 r0 r1 d6 => ?_⟩
    have hk6 := (hk.step dn).step d6
    have cF6 := (cF.step hk.b0 np dn).step hk.b0 np d6
    have hl3 := d6.lst (xs := [V.str "w", V.str "kind"]) upd_same (fun z => hk.dw.bat (by rw [← z]; exact hl2))
    obtain ⟨v, hv, hm⟩ := atI_lt (xs := [V.str "w", V.str "kind"]) r0 r1
    have hs : ∃ s, v = V.str s ∧ SOk s := by
      simp only [List.mem_cons, List.not_mem_nil, or_false] at hm
      rcases hm with rfl | rfl <;> exact ⟨_, rfl, by decide +kernel, by decide +kernel⟩
    obtain ⟨n, rfl, hn⟩ := hs
    refine ⟨l2, _, _, _, rfl, rfl, SqL.of hl3, hv, _, rfl, _, rfl, _, rfl, _, _, rfl, rfl, _, rfl, x, _, b, rfl, by omega, hk6.cur, fun w2 m H7 d7 hm hw => ⟨(by show 4 ≤ sizeLine; decide), fun t ht => ?_⟩⟩
    have hk7 := hk6.step d7
    have cF7 := cF6.step hk.b0 np d7
    have hk8 := hk7.new (o := .tup [.str "select", .str n, .ref p, w2]) ht
    have cF8 := cF7.step hk.b0 np (Dw.new (o := .tup [.str "select", .str n, .ref p, w2]) hk7.cur ht)
    have hm8 := ((hm.mn (Mn.same (fr_base (H := H7) hk6.dom))).mn (Mn.same (hk7.same (Dw.new (o := .tup [.str "select", .str n, .ref p, w2]) hk7.cur ht)))).mn (Mn.same hk8.up)
    exact q (.ref t) (.sel n cs m) _ hk8.dw ⟨t, p, kvs, w2, rfl, hk8.up _ _ (hk7.newAt ht), cF8.is hk8 hp, hm8⟩ ⟨hn, cF.len, cF.nd, cF.ok, cF.wf, hw⟩
theorem ok_pluD {f : Addr} {fd : FuncData} {j L : Nat} (hL : 1 ≤ L) (F : Fun K "_law_plural" "_law_plural" sPluD f fd) (GD : Dn P w K mg base CX0 "_law_draw" pDraw 1 spDraw) (GM : Dn P w K mg base CX0 "_law_message" pMk L (spMk j)) :
    FnOk P w K mg base CX0 (L + 1) f fd pPl (spPluD (j + 1)) := by
  refine F.ok scPluD (fun vs H Q E h => ?_) (fun cdv A outer s H vs Q E hr h => ?_)
  · obtain ⟨x, dp, rfl, _⟩ := h
    rfl
  obtain ⟨x, dp, rfl, hdp, _, hB, q⟩ := h
  have nd := scPluD.nd
  have hr1 := hr.mono (j := 1) hL
  refine ⟨_, pss_cons (ps_set (i := 2) nd rfl (Or.inl rfl) (pe_lst pa_nil))
    (pss_cons (ps_for PassesOwn.never rfl (pi_list (pe_lst (pa_cons pe_int (pa_cons pe_int (pa_cons pe_int (pa_cons pe_int (pa_cons pe_str (pa_cons pe_str (pa_cons pe_str (pa_cons pe_str (pa_cons pe_str pa_nil))))))))))) (pg_name (i := 3) nd rfl (Or.inl rfl))
      (pss_one (ps_if (pt_cmpR op_eq (pe_dn GD hr1 rfl (pa_cons (pv 0) (pa_cons pe_int pa_nil))) pe_int (nomark _))
        (pss_one (ps_expr (pe_bm PySem.F.plainAttrs_list PySem.F.slot_list_append PySem.F.type_list_append mt_append (pv 2) (pa_cons (pe_tup (pa_cons (pv 3) (pa_cons (pe_dn GM hr rfl (pa_cons (pv 0) (pa_cons (pe_op op_sub (pv 1) pe_int) (pa_cons pe_bl pa_nil)))) pa_nil))) pa_nil)))) pss_nil)))
    (pss_cons (ps_if (pt_cmpR op_eq (pe_dn GD hr1 rfl (pa_cons (pv 0) (pa_cons pe_int pa_nil))) pe_int (nomark _)) (pss_one (ps_expr (pe_bm0 PySem.F.plainAttrs_list PySem.F.slot_list_reverse PySem.F.type_list_reverse mt_reverse (pv 2)))) pss_nil)
    (pss_one (ps_ret (pe_tup (pa_cons pe_str (pa_cons (pe_ix ix_list (pe_lst (pa_cons pe_str (pa_cons pe_str pa_nil))) (pe_dn GD hr1 rfl (pa_cons (pv 0) (pa_cons pe_int pa_nil))) (fun _ _ => rfl))
      (pa_cons (pe_ix ix_list (pe_lst (pa_cons pe_int (pa_cons pe_int (pa_cons pe_int (pa_cons pe_int pa_nil))))) (pe_dn GD hr1 rfl (pa_cons (pv 0) (pa_cons pe_int pa_nil))) (fun _ _ => rfl))
      (pa_cons (pv 2) (pa_cons (pe_dn GM hr rfl (pa_cons (pv 0) (pa_cons (pe_op op_sub (pv 1) pe_int) (pa_cons pe_bl pa_nil)))) pa_nil)))))))))), ?_⟩
  refine ⟨(by show 0 ≤ sizeLine; decide), fun p hp => ?_⟩
  have np : p ≠ x.b := fun z => hB.bat (by rw [← z]; exact hp)
  have k1 := Wk.start (o := .lst []) hB hp
  refine ⟨(by show 9 ≤ sizeLine; decide), fun l hl => ?_⟩
  have nl : l ≠ x.b := fun z => k1.dw.bat (by rw [← z]; exact hl)
  have npl : p ≠ l := ne_of_none upd_same hl
  have k2 := k1.more (o := .lst (pluKeys.map kV)) hl
  refine ⟨l, rfl, ⟨_, SqL.of upd_same⟩, ?_⟩
  have hp0 : (upd (upd H p (.lst [])) l (.lst (pluKeys.map kV))) p ≠ none := by
    rw [upd_ne npl, upd_same]
    intro z
    cases z
  have c0 : CsI p (j + 1) true (pluKeys.take 0) (upd (upd H p (.lst [])) l (.lst (pluKeys.map kV))) (upd (upd H p (.lst [])) l (.lst (pluKeys.map kV))) [] [] [] := ⟨by rw [upd_ne npl, upd_same]; rfl, .nil, .nil, List.Sublist.refl _, fun _ z => absurd z (by simp)⟩
  generalize hH0 : upd (upd H p (.lst [])) l (.lst (pluKeys.map kV)) = H0 at k2 hp0 c0
  have gH0 : upd (upd H p (.lst [])) l (.lst [V.int 0, V.int 1, V.int 2, V.int 12, V.str "zero", V.str "one", V.str "two", V.str "few", V.str "many"]) = H0 := hH0
  refine for_list (K := K) (a := l) (xs := pluKeys.map kV) (fun i σ H' => ∃ (o3 : Option V) (ps : List Addr) (kvs : List (Key × V)) (cs : List (Key × Msg (j + 1))), σ = [some (.ref x.b), some (.int dp), some (.ref p), o3] ∧ Wk x H H0 H' ∧ H' l = some (.lst (pluKeys.map kV)) ∧
      CsI p (j + 1) true (pluKeys.take i) H0 H' ps kvs cs)
    ⟨none, [], [], [], rfl, ?_, ?_, ?_⟩ (fun i σ H' _ ⟨_, _, _, _, _, _, e, _⟩ => SqL.of e) ?_ ?_
  · rw [gH0]; exact k2
  · exact upd_same
  · rw [gH0]; exact c0
  · rintro i y σ H' hy ⟨o3, ps, kvs, cs, rfl, hk, hl', c⟩
    obtain ⟨key, hkey, rfl⟩ := key_at hy
    have et := take_at hkey
    refine ⟨_, rfl, x, 5, rfl, hk.cur, by decide, fun r H3 r0 r1 d => ?_⟩
    have hk3 := hk.step d
    have c3 := c.step hk.b0 np d
    have hl3 := d.lst hl' nl
    refine ⟨rfl, _, rfl, ite2 (fun _ => ?_) (fun _ => ?_)⟩
    · refine ⟨_, rfl, .inl ⟨rfl, _, SqL.of c3.hp⟩, _, rfl, _, rfl, _, rfl, _, _, rfl, rfl, x, _, true, rfl, by omega, hk3.cur, fun v m H4 d4 hm hw => ⟨(by show 2 ≤ sizeLine; decide), fun t ht => ?_⟩⟩
      have hk4 := hk3.step d4
      have c4 := c3.step hk3.b0 np d4
      have hm4 := hm.mn (Mn.same (fr_base (H := H4) hk3.dom))
      have ht2 : upd H4 t (.tup [kV key, v]) p = some (.lst (ps.map V.ref)) := by rw [upd_ne (ne_of_none c4.hp ht)]; exact c4.hp
      obtain ⟨hlen, c5⟩ := c4.add hk4 hp0 ht hm4 hw ht2
      have hlen2 := c4.sub.length_le
      rw [List.length_map, List.length_take] at hlen2
      have hsz : (ps.map V.ref).length < sizeLine := small1000 (by have := Nat.min_le_right i pluKeys.length; have e3 : pluKeys.length = 9 := rfl; omega)
      refine ⟨p, _, _, rfl, rfl, ht2, hsz, _, _, _, _, rfl, (hk4.new ht).wr hp hp0, ?_, by rw [et]; exact c5⟩
      rw [upd_ne npl.symm, upd_ne (ne_of_none (d4.lst hl3 nl) ht)]
      exact d4.lst hl3 nl
    · exact ⟨_, _, _, _, rfl, hk3, hl3, by rw [et]; exact c3.more⟩
  · rintro σ H5 ⟨o3, ps, kvs, cs, rfl, hk, hl', c⟩
    have cF := CsI.fin (keys := pluKeys) c (by decide) pluKeys_ok.1 pluKeys_ok.2
    refine ⟨_, rfl, x, 3, rfl, hk.cur, by decide, fun r H6 r0 r1 d6 => ?_⟩
    have fin : ∀ (H6 : Hp) (ps : List Addr) (kvs : List (Key × V)) (cs : List (Key × Msg (j + 1))), Wk x H H0 H6 → CsF p (j + 1) true H0 H6 ps kvs cs →
        (tRet (tTup (tCons (tC (.str "plural")) (tCons (tOp (rIxL K) (tLst (tCons (tC (.str "n")) (tCons (tC (.str "count")) tNil))) (tCall spDraw [] E0 (tCons (tVar 0) (tCons (tC (.int 2)) tNil))))
          (tCons (tOp (rIxL K) (tLst (tCons (tC (.int 0)) (tCons (tC (.int 0)) (tCons (tC (.int 1)) (tCons (tC (.int 2)) tNil))))) (tCall spDraw [] E0 (tCons (tVar 0) (tCons (tC (.int 4)) tNil))))
          (tCons (tVar 2) (tCons (tCall (spMk j) [] E0 (tCons (tVar 0) (tCons (tOp (rI0 fun i j => .int (i - j)) (tVar 1) (tC (.int 1))) (tCons (tC (.bl true)) tNil)))) tNil)))))))
        { nx := fun _ H' => Q .non H', rt := Q } [some (.ref x.b), some (.int dp), some (.ref p), o3] H6 := by
      intro H6 ps kvs cs hk cF
      refine ⟨(by show 2 ≤ sizeLine; decide), fun l2 hl2 => ?_⟩
      have dn := Dw.new (o := .lst [V.str "n", V.str "count"]) hk.cur hl2
      refine ⟨_, rfl, x, 2, rfl, hk.cur.dw dn, by decide, fun r H7 r0 r1 d7 => ?_⟩
      have hk7 := (hk.step dn).step d7
      have cF7 := (cF.step hk.b0 np dn).step hk.b0 np d7
      have hl3 := d7.lst (xs := [V.str "n", V.str "count"]) upd_same (fun z => hk.dw.bat (by rw [← z]; exact hl2))
      obtain ⟨v, hv, hm⟩ := atI_lt (xs := [V.str "n", V.str "count"]) r0 r1
      have hs : ∃ s, v = V.str s ∧ SOk s := by
        simp only [List.mem_cons, List.not_mem_nil, or_false] at hm
        rcases hm with rfl | rfl <;> exact ⟨_, rfl, by decide +kernel, by decide +kernel⟩
      obtain ⟨n, rfl, hn⟩ := hs
      refine ⟨l2, _, _, _, rfl, rfl, SqL.of hl3, hv, (by show 4 ≤ sizeLine; decide), fun l4 hl4 => ?_⟩
      have dn2 := Dw.new (o := .lst [V.int 0, V.int 0, V.int 1, V.int 2]) hk7.cur hl4
      refine ⟨_, rfl, x, 4, rfl, hk7.cur.dw dn2, by decide, fun r' H8 r0' r1' d8 => ?_⟩
      have hk8 := (hk7.step dn2).step d8
      have cF8 := (cF7.step hk.b0 np dn2).step hk.b0 np d8
      have hl5 := d8.lst (xs := [V.int 0, V.int 0, V.int 1, V.int 2]) upd_same (fun z => hk7.dw.bat (by rw [← z]; exact hl4))
      obtain ⟨v', hv', hm'⟩ := atI_lt (xs := [V.int 0, V.int 0, V.int 1, V.int 2]) r0' r1'
      have hs' : ∃ i, v' = V.int i ∧ 0 ≤ i ∧ i ≤ 9 := by
        simp only [List.mem_cons, List.not_mem_nil, or_false] at hm'
        rcases hm' with rfl | rfl | rfl | rfl <;> exact ⟨_, rfl, by decide, by decide⟩
      obtain ⟨off, rfl, o0, o9⟩ := hs'
      refine ⟨l4, _, _, _, rfl, rfl, SqL.of hl5, hv', _, rfl, _, rfl, _, rfl, _, _, rfl, rfl, x, _, true, rfl, by omega, hk8.cur, fun w2 m H9 d9 hm hw => ⟨(by show 5 ≤ sizeLine; decide), fun t ht => ?_⟩⟩
      have hk9 := hk8.step d9
      have cF9 := cF8.step hk.b0 np d9
      have hkA := hk9.new (o := .tup [.str "plural", .str n, .int off, .ref p, w2]) ht
      have cFA := cF9.step hk.b0 np (Dw.new (o := .tup [.str "plural", .str n, .int off, .ref p, w2]) hk9.cur ht)
      have hmA := ((hm.mn (Mn.same (fr_base (H := H9) hk8.dom))).mn (Mn.same (hk9.same (Dw.new (o := .tup [.str "plural", .str n, .int off, .ref p, w2]) hk9.cur ht)))).mn (Mn.same hkA.up)
      exact q (.ref t) (.plu n off cs m) _ hkA.dw ⟨t, p, kvs, w2, rfl, hkA.up _ _ (hk9.newAt ht), cFA.is hkA hp, hmA⟩ fun _ => ⟨hn, o0, o9, cF.len, cF.nd, cF.ok, cF.wf, hw⟩
    have hk6 := hk.step d6
    have cF6 := cF.step hk.b0 np d6
    refine ⟨rfl, _, rfl, ite2 (fun _ => ?_) (fun _ => ?_)⟩
    · refine ⟨_, rfl, .inl ⟨rfl, _, SqL.of cF6.hp⟩, p, _, rfl, rfl, cF6.hp, ?_⟩
      exact fin _ _ _ _ (hk6.wr hp hp0) (cF6.rev hp0)
    · exact fin _ _ _ _ hk6 cF6
/-! ### _law_message -/
theorem rd_kind {σ : L2.St} {H : Hp} {dp kd : Int} {Qc : Bool → Hp → Prop} (h1 : σ[1]? = some (some (.int dp))) (h5 : σ[5]? = some (some (.int kd))) (t : Qc true H) (f : ¬ kd < 3 → ¬ (dp = 0 ∧ 4 < kd) → Qc false H) :
    (tOr (tTest (tOp (rI0 fun i j => .bl (decide (i < j))) (tVar 5) (tC (.int 3)))) (tAnd (tTest (tOp rEq (tVar 1) (tC (.int 0)))) (tTest (tOp (rI0 fun i j => .bl (decide (j < i))) (tVar 5) (tC (.int 4)))))) σ H Qc := by
  refine ⟨_, h5, _, _, rfl, rfl, _, rfl, ite2 (fun _ => t) (fun c => ?_)⟩
  have c1 : ¬ kd < 3 := of_decide_eq_false (Bool.eq_false_iff.mpr c)
  refine ⟨_, h1, rfl, _, rfl, ite2 (fun c2 => ?_) (fun c2 => ?_)⟩
  · refine ⟨_, h5, _, _, rfl, rfl, _, rfl, ?_⟩
    by_cases c3 : 4 < kd
    · rw [decide_eq_true c3]
      exact t
    · rw [decide_eq_false c3]
      exact f c1 fun z => c3 z.2
  · exact f c1 fun z => c2 (decide_eq_true (by rw [z.1]))
theorem last_at {α : Type} {xs : List α} (h : ¬ xs.length = 0) : ∃ v, atI xs (-1) = some v ∧ v ∈ xs := by
  obtain ⟨ys, v, rfl⟩ : ∃ ys v, xs = ys ++ [v] := by
    rcases List.eq_nil_or_concat xs with e | ⟨ys, v, e⟩
    · rw [e] at h
      exact absurd rfl h
    · exact ⟨ys, v, by rw [e, List.concat_eq_append]⟩
  exact ⟨v, atI_last _ _, by simp⟩
theorem ok_msgD {f : Addr} {fd : FuncData} {k L : Nat} (hL : 2 ≤ L) (F : Fun K "_law_message" "_law_message" sMsgD f fd) (B : Bt mg) (GD : Dn P w K mg base CX0 "_law_draw" pDraw 1 spDraw) (GT : Dn P w K mg base CX0 "_law_string" ["_law_box"] 2 spString)
    (GP : Dn P w K mg base CX0 "_law_plural" pPl L (spPluD k)) (GS : Dn P w K mg base CX0 "_law_select" pMk L (spSelD k)) : FnOk P w K mg base CX0 (L + 1) f fd pMk (spMk k) := by
  refine F.ok scMsgD (fun vs H Q E h => ?_) (fun cdv A outer s H vs Q E hr h => ?_)
  · obtain ⟨x, dp, b, rfl, _⟩ := h
    rfl
  obtain ⟨x, dp, b, rfl, hdp, hB, q⟩ := h
  have nd := scMsgD.nd
  have hr1 := hr.mono (j := 1) (by omega)
  have hr2 := hr.mono (j := 2) hL
  refine ⟨_, pss_cons (ps_set (i := 3) nd rfl (Or.inl rfl) (pe_lst pa_nil))
    (pss_cons (ps_for PassesOwn.never rfl (pi_range1 rfl B.range (pa_cons (pe_dn GD hr1 rfl (pa_cons (pv 0) (pa_cons pe_int pa_nil))) pa_nil)) (pg_name (i := 4) nd rfl (Or.inl rfl))
      (pss_cons (ps_set (i := 5) nd rfl (Or.inl rfl) (pe_dn GD hr1 rfl (pa_cons (pv 0) (pa_cons pe_int pa_nil))))
      (pss_one (ps_if (PW.pt (pw_or (pt_cmpR op_lt (pv 5) pe_int (nomark _)) (pw_or1 (PW.pt (pw_and (pt_cmpR op_eq (pv 1) pe_int (nomark _)) (pw_and1 (pt_cmpR op_gt (pv 5) pe_int (nomark _))))))))
        (pss_one (ps_if (PW.pt (pw_or (pt_cmpR op_eq (pe_callB call_len_seq rfl B.len PySem.boot_len (pa_cons (pv 3) pa_nil)) pe_int (nomark _))
            (pw_or1 (pt_cmpR op_ne (pe_ix ix_tup (pe_ix ix_list (pv 3) (pe_un un_neg pe_int) (fun _ _ => rfl)) pe_int (fun _ _ => rfl)) pe_str (nomark _)))))
          (pss_one (ps_expr (pe_bm PySem.F.plainAttrs_list PySem.F.slot_list_append PySem.F.type_list_append mt_append (pv 3) (pa_cons (pe_tup (pa_cons pe_str (pa_cons (pe_dn GT hr2 rfl (pa_cons (pv 0) pa_nil)) pa_nil))) pa_nil)))) pss_nil))
        (pss_one (ps_if (pt_cmpR op_eq (pv 5) pe_int (nomark _))
          (pss_one (ps_expr (pe_bm PySem.F.plainAttrs_list PySem.F.slot_list_append PySem.F.type_list_append mt_append (pv 3) (pa_cons (pe_tup (pa_cons pe_str (pa_cons (pe_ix ix_list (pe_lst (pa_cons pe_str (pa_cons pe_str (pa_cons pe_str (pa_cons pe_str pa_nil))))) (pe_dn GD hr1 rfl (pa_cons (pv 0) (pa_cons pe_int pa_nil))) (fun _ _ => rfl)) pa_nil))) pa_nil))))
        (pss_one (ps_if (pt_cmpR op_eq (pv 5) pe_int (nomark _))
          (pss_one (ps_if (pt_val (pv 2)) (pss_one (ps_expr (pe_bm PySem.F.plainAttrs_list PySem.F.slot_list_append PySem.F.type_list_append mt_append (pv 3) (pa_cons (pe_tup (pa_cons pe_str pa_nil)) pa_nil)))) pss_nil))
        (pss_one (ps_if (pt_cmpR op_lt (pv 5) pe_int (nomark _))
          (pss_one (ps_expr (pe_bm PySem.F.plainAttrs_list PySem.F.slot_list_append PySem.F.type_list_append mt_append (pv 3) (pa_cons (pe_dn GP hr rfl (pa_cons (pv 0) (pa_cons (pv 1) pa_nil))) pa_nil))))
          (pss_one (ps_expr (pe_bm PySem.F.plainAttrs_list PySem.F.slot_list_append PySem.F.type_list_append mt_append (pv 3) (pa_cons (pe_dn GS hr rfl (pa_cons (pv 0) (pa_cons (pv 1) (pa_cons (pv 2) pa_nil)))) pa_nil))))))))))))))
    (pss_one (ps_ret (pv 3)))), ?_⟩
  refine ⟨(by show 0 ≤ sizeLine; decide), fun p hp => ?_⟩
  have np : p ≠ x.b := fun z => hB.bat (by rw [← z]; exact hp)
  have k1 := Wk.start (o := .lst []) hB hp
  have hp0 : (upd H p (.lst [])) p ≠ none := by
    rw [upd_same]
    intro z
    cases z
  have c0 : MsI p k b 0 (upd H p (.lst [])) (upd H p (.lst [])) [] [] := ⟨upd_same, .nil, fun _ z => absurd z (by simp), Nat.le_refl _⟩
  refine ⟨_, rfl, x, 4, rfl, k1.cur, by decide, fun n H1 n0 n1 d1 => ?_⟩
  have k2 := k1.step d1
  have c1 := c0.step k1.b0 np d1
  generalize hH0 : upd H p (.lst []) = H0 at k2 hp0 c1
  refine ⟨n, rfl, by omega, by omega, for_range (n := n.toNat) (fun i σ H' => ∃ (o4 o5 : Option V) (acc : List V) (nds : List (Nd (Msg k))), σ = [some (.ref x.b), some (.int dp), some (.bl b), some (.ref p), o4, o5] ∧ Wk x H H0 H' ∧ MsI p k b i H0 H' acc nds)
    ⟨none, none, [], [], rfl, k2, c1⟩ ?_ ?_⟩
  · rintro i σ H' hi ⟨o4, o5, acc, nds, rfl, hk, c⟩
    have hi3 : i < 3 := by omega
    have hacc : acc.length < sizeLine := small1000 (by have := c.len; rw [Paired.len c.pr]; omega)
    refine ⟨_, rfl, x, 8, rfl, hk.cur, by decide, fun kd H2 kd0 kd1 d2 => ?_⟩
    have hk2 := hk.step d2
    have c2 := c.step hk.b0 np d2
    -- what an appended node leaves
    have app : ∀ (H3 H4 : Hp) (v : V) (nd' : Nd (Msg k)) (o4 o5 : Option V), Wk x H H0 H3 → Dw x H3 H4 → MsI p k b i H0 H3 acc nds → IsNd (IsM k (fr H3 H4)) (fr H3 H4) v nd' → WfN (Wf k) b nd' →
        ∃ (l : Addr) (xs : List V) (y : V), V.ref p = V.ref l ∧ [v] = [y] ∧ H4 l = some (.lst xs) ∧ xs.length < sizeLine ∧ (fun (_ : V) H5 => ∃ (o4' o5' : Option V) (acc : List V) (nds : List (Nd (Msg k))), [some (V.ref x.b), some (.int dp), some (.bl b), some (.ref p), o4, o5] = [some (V.ref x.b), some (.int dp), some (.bl b), some (.ref p), o4', o5'] ∧ Wk x H H0 H5 ∧ MsI p k b (i + 1) H0 H5 acc nds) V.non (upd H4 l (.lst (xs ++ [y]))) :=
      fun H3 H4 v nd' o4 o5 hk3 d4 c3 hv hw => by
        have hk4 := hk3.step d4
        have c4 := c3.step hk3.b0 np d4
        have s := Mn.same (fr_base (H := H4) hk3.dom)
        exact ⟨p, acc, v, rfl, rfl, c4.hp, hacc, _, _, _, _, rfl, hk4.wr hp hp0, c4.add hp0 (hv.mn s fun _ _ z => z.mn s) hw⟩
    refine rd_kind (dp := dp) (kd := kd) rfl rfl (ite2 (fun _ => ?_) (fun z => absurd rfl z)) (fun g1 g2 => ite2 (fun z => Bool.noConfusion z) (fun _ => ?_))
    · -- a text
      refine (fun T => ⟨_, rfl, p, _, rfl, .inl (SqL.of c2.hp), rfl, _, rfl, ite2 (fun _ => ite2 (fun _ => T) (fun z => absurd rfl z)) (fun g => ?_)⟩) ?_
      rotate_left
      · have g' : ¬ acc.length = 0 := fun z => g (decide_eq_true (by rw [z]; rfl))
        obtain ⟨v, hv, hm⟩ := last_at g'
        obtain ⟨j, hj, ej⟩ := List.getElem_of_mem hm
        obtain ⟨nd', _, hn⟩ := Paired.get c2.pr (List.getElem?_eq_some_iff.mpr ⟨hj, ej⟩)
        obtain ⟨q1, s1, rest, rfl, hq1⟩ := tag_of hn
        refine ⟨_, rfl, _, rfl, p, _, _, _, rfl, rfl, SqL.of c2.hp, hv, q1, _, _, .str s1, rfl, rfl, SqT.of (fr_some hq1).2, atI_nat (j := 0) rfl, rfl, _, rfl, ite2 (fun _ => T) (fun _ => ?_)⟩
        exact ⟨_, _, _, _, rfl, hk2, c2.more⟩
      · refine ⟨_, rfl, .inl ⟨rfl, _, SqL.of c2.hp⟩, _, rfl, x, rfl, hk2.cur, fun s H3 hs d3 => ⟨(by show 2 ≤ sizeLine; decide), fun t ht => ?_⟩⟩
        have hk3 := hk2.step d3
        exact app H3 _ (.ref t) (.txt s) _ _ hk3 (Dw.new hk3.cur ht) (c2.step hk2.b0 np d3) ⟨t, rfl, by rw [fr_at ht, upd_same]⟩ hs
    · refine ⟨_, rfl, rfl, _, rfl, ite2 (fun _ => ?_) (fun g3 => ?_)⟩
      · -- a show
        refine ⟨_, rfl, .inl ⟨rfl, _, SqL.of c2.hp⟩, (by show 4 ≤ sizeLine; decide), fun l hl => ?_⟩
        have dn := Dw.new (o := .lst [V.str "n", V.str "w", V.str "who", V.str "count"]) hk2.cur hl
        refine ⟨_, rfl, x, 4, rfl, hk2.cur.dw dn, by decide, fun r H3 r0 r1 d3 => ?_⟩
        have hk3 := (hk2.step dn).step d3
        have hl3 := d3.lst (xs := [V.str "n", V.str "w", V.str "who", V.str "count"]) upd_same (fun z => hk2.dw.bat (by rw [← z]; exact hl))
        obtain ⟨v, hv, hm⟩ := atI_lt (xs := [V.str "n", V.str "w", V.str "who", V.str "count"]) r0 r1
        have hs : ∃ s, v = V.str s ∧ SOk s := by
          simp only [List.mem_cons, List.not_mem_nil, or_false] at hm
          rcases hm with rfl | rfl | rfl | rfl <;> exact ⟨_, rfl, by decide +kernel, by decide +kernel⟩
        obtain ⟨n', rfl, hn⟩ := hs
        refine ⟨l, _, _, _, rfl, rfl, SqL.of hl3, hv, (by show 2 ≤ sizeLine; decide), fun t ht => ?_⟩
        exact app H3 _ (.ref t) (.shw n') _ _ hk3 (Dw.new hk3.cur ht) ((c2.step hk2.b0 np dn).step hk2.b0 np d3) ⟨t, rfl, by rw [fr_at ht, upd_same]⟩ hn
      refine ⟨_, rfl, rfl, _, rfl, ite2 (fun _ => ?_) (fun g4 => ?_)⟩
      · refine ⟨_, rfl, _, rfl, ite2 (fun hb => ?_) (fun _ => ?_)⟩
        · refine ⟨_, rfl, .inl ⟨rfl, _, SqL.of c2.hp⟩, (by show 1 ≤ sizeLine; decide), fun t ht => ?_⟩
          exact app H2 _ (.ref t) .num _ _ hk2 (Dw.new hk2.cur ht) c2 ⟨t, rfl, by rw [fr_at ht, upd_same]⟩ hb
        · exact ⟨_, _, _, _, rfl, hk2, c2.more⟩
      have e3 : kd ≠ 3 := fun z => g3 (decide_eq_true (by rw [z]))
      have e4 : kd ≠ 4 := fun z => g4 (decide_eq_true (by rw [z]))
      have hk1 : 1 ≤ k := by
        by_cases z : k = 0
        · exact absurd ⟨by rw [hdp, z]; rfl, by omega⟩ g2
        · omega
      refine ⟨_, rfl, _, _, rfl, rfl, _, rfl, ite2 (fun _ => ?_) (fun _ => ?_)⟩
      · exact ⟨_, rfl, .inl ⟨rfl, _, SqL.of c2.hp⟩, _, rfl, _, rfl, x, dp, rfl, hdp, hk1, hk2.cur, fun v nd' H3 d3 hv hw => app H2 H3 v nd' _ _ hk2 d3 c2 hv (hw b)⟩
      · exact ⟨_, rfl, .inl ⟨rfl, _, SqL.of c2.hp⟩, _, rfl, _, rfl, _, rfl, x, dp, b, rfl, hdp, hk1, hk2.cur, fun v nd' H3 d3 hv hw => app H2 H3 v nd' _ _ hk2 d3 c2 hv hw⟩
  · rintro σ H' ⟨o4, o5, acc, nds, rfl, hk, c⟩
    refine ⟨_, rfl, q (.ref p) nds H' hk.dw ?_ ⟨Nat.le_trans c.len (by omega), c.wf⟩⟩
    exact ⟨p, acc, rfl, by rw [fr_at hp]; exact c.hp, Paired.mapP c.pr fun _ _ z => z.mn (Mn.same hk.up) fun _ _ z => z.mn (Mn.same hk.up)⟩
end
end MW

set_option Elab.async false
set_option linter.all false
set_option maxRecDepth 100000
set_option maxHeartbeats 2000000
/-! W10: levels of the makers; _law_relation, _law_condition, _law_rules. -/
namespace MW
open PySem PySem.Spec PyProof.Rows L2
open GA (Tk TG CodeT)
abbrev sRelD : Stmt := top 33
abbrev sCondD : Stmt := top 34
abbrev sRulesD : Stmt := top 35
/-! ### a list of drawn things under construction -/
structure LsI {α : Type} (R : Hp → V → α → Prop) (p : Addr) (n : Nat) (H0 H : Hp) (acc : List V) (xs : List α) : Prop where
  hp : H p = some (.lst acc)
  pr : Paired (R (fr H0 H)) acc xs
  len : xs.length ≤ n
section
variable {α : Type} {R : Hp → V → α → Prop} {x : Bx} {Hs H0 H H' H1 : Hp} {p : Addr} {n : Nat} {acc : List V} {xs : List α}
theorem LsI.step (hR : ∀ H H' v a, Same H H' → R H v a → R H' v a) (c : LsI R p n H0 H acc xs) (hb : H0 x.b ≠ none) (hn : p ≠ x.b) (d : Dw x H H') : LsI R p n H0 H' acc xs := ⟨d.lst c.hp hn, Paired.mapP c.pr fun _ _ z => hR _ _ _ _ (fr_dw d hb) z, c.len⟩
theorem LsI.more (c : LsI R p n H0 H acc xs) : LsI R p (n + 1) H0 H acc xs := ⟨c.hp, c.pr, Nat.le_succ_of_le c.len⟩
theorem LsI.add (hR : ∀ H H' v a, Same H H' → R H v a → R H' v a) (c : LsI R p n H0 H acc xs) (h0 : H0 p ≠ none) {v : V} {a : α} (hv : R (fr H0 H) v a) : LsI R p (n + 1) H0 (upd H p (.lst (acc ++ [v]))) (acc ++ [v]) (xs ++ [a]) :=
  ⟨upd_same, Paired.add (Paired.mapP c.pr fun _ _ z => hR _ _ _ _ (fr_upd h0) z) (hR _ _ _ _ (fr_upd h0) hv), by rw [List.length_append, List.length_singleton]; exact Nat.succ_le_succ c.len⟩
theorem LsI.is (hR : ∀ H H' v a, Same H H' → R H v a → R H' v a) (c : LsI R p n H0 H acc xs) (hk : Wk x Hs H0 H) (hp : Hs p = none) : IsL (R (fr Hs H)) (fr Hs H) (.ref p) xs := ⟨p, acc, rfl, by rw [fr_at hp]; exact c.hp, Paired.mapP c.pr fun _ _ z => hR _ _ _ _ hk.up z⟩
theorem LsI.small (c : LsI R p n H0 H acc xs) (h : n ≤ 1000) : acc.length < sizeLine := small1000 (by rw [Paired.len c.pr]; exact Nat.le_trans c.len h)
end
theorem hRng : ∀ (H H' : Hp) (v : V) (a : Int × Int), Same H H' → IsRng H v a → IsRng H' v a := fun _ _ _ _ s z => z.mn (Mn.same s)
theorem hRel : ∀ (H H' : Hp) (v : V) (a : Rel), Same H H' → IsRel H v a → IsRel H' v a := fun _ _ _ _ s z => z.mn (Mn.same s)
theorem hRow : ∀ (H H' : Hp) (v : V) (a : List Rel), Same H H' → IsRow H v a → IsRow H' v a := fun _ _ _ _ s z => IsRow.mn (Mn.same s) z
theorem hRule : ∀ (H H' : Hp) (v : V) (a : Str × Cond), Same H H' → IsRule H v a → IsRule H' v a := fun _ _ _ _ s z => z.mn (Mn.same s)
section
variable {P : Program} {w : World} {K : PySem.W.Frag} {mg : Str → Option Value} {base : Heap}
theorem pl_none {f : Addr} {fd : FuncData} {L : Nat} : FnOk P w K mg base CX0 L f fd pPl (spPluD 0) := by
  have no : ∀ vs H Q E, ¬ spPluD 0 vs H Q E := fun vs H Q E h => by
    obtain ⟨_, _, _, _, z, _⟩ := h
    omega
  exact ⟨fun vs H Q E h => absurd h (no vs H Q E), fun A outer s H args us vs Q E _ _ _ _ h => absurd h (no vs H Q E)⟩
theorem sl_none {f : Addr} {fd : FuncData} {L : Nat} : FnOk P w K mg base CX0 L f fd pMk (spSelD 0) := by
  have no : ∀ vs H Q E, ¬ spSelD 0 vs H Q E := fun vs H Q E h => by
    obtain ⟨_, _, _, _, _, z, _⟩ := h
    omega
  exact ⟨fun vs H Q E h => absurd h (no vs H Q E), fun A outer s H args us vs Q E _ _ _ _ h => absurd h (no vs H Q E)⟩
theorem mk_levels {fM fP fS : Addr} {dM dP dS : FuncData} (FM : Fun K "_law_message" "_law_message" sMsgD fM dM) (FP : Fun K "_law_plural" "_law_plural" sPluD fP dP) (FS : Fun K "_law_select" "_law_select" sSelD fS dS) (mM : mg "_law_message" = some (.ref fM)) (mP : mg "_law_plural" = some (.ref fP))
    (mS : mg "_law_select" = some (.ref fS)) (bM : Binds K dM pMk []) (bP : Binds K dP pPl []) (bS : Binds K dS pMk []) (B : Bt mg) (GD : Dn P w K mg base CX0 "_law_draw" pDraw 1 spDraw) (GT : Dn P w K mg base CX0 "_law_string" ["_law_box"] 2 spString) :
    ∀ k : Nat, Dn P w K mg base CX0 "_law_message" pMk (3 + 2 * k) (spMk k)
  | 0 => ⟨fM, dM, ok_msgD (L := 2) (Nat.le_refl 2) FM B GD GT ⟨fP, dP, pl_none, mP, FP.kp, bP⟩ ⟨fS, dS, sl_none, mS, FS.kp, bS⟩, mM, FM.kp, bM⟩
  | k + 1 => by
    have ih := mk_levels FM FP FS mM mP mS bM bP bS B GD GT k
    have h3 : 3 ≤ 3 + 2 * k := Nat.le_add_right 3 _
    exact ⟨fM, dM, ok_msgD (L := 3 + 2 * k + 1) (by omega) FM B GD GT ⟨fP, dP, ok_pluD (by omega) FP GD ih, mP, FP.kp, bP⟩ ⟨fS, dS, ok_selD (by omega) FS GD ih, mS, FS.kp, bS⟩, mM, FM.kp, bM⟩
/-! ### _law_relation -/
def spRelD : Sp := fun vs H Q _ => ∃ x : Bx, vs = [.ref x.b] ∧ Box x H ∧ ∀ (v : V) (r : Rel) (H' : Hp), Dw x H H' → IsRel (fr H H') v r → Q v H'
abbrev nRelD : List Str := ["_law_box", "_law_modulus", "_law_ranges", "_law_turn", "_law_low"]
theorem scRelD : FnScope nRelD ["_law_box"] (defScope sRelD) := ⟨rfl, rfl, rfl, by decide +kernel, rfl, by decide +kernel, by decide +kernel⟩
/-- a draw from a written list of ints -/
theorem int_at {xs : List V} {r : Int} (h : ∀ v ∈ xs, ∃ i, v = V.int i) (h0 : 0 ≤ r) (h1 : r < xs.length) : ∃ i, atI xs r = some (.int i) := by
  obtain ⟨v, hv, hm⟩ := atI_lt h0 h1
  obtain ⟨i, rfl⟩ := h v hm
  exact ⟨i, hv⟩
theorem ok_relD {f : Addr} {fd : FuncData} (F : Fun K "_law_relation" "_law_relation" sRelD f fd) (B : Bt mg) (G : Dn P w K mg base CX0 "_law_draw" pDraw 1 spDraw) : FnOk P w K mg base CX0 2 f fd ["_law_box"] spRelD := by
  refine F.ok scRelD (fun vs H Q E h => ?_) (fun cdv A outer s H vs Q E hr h => ?_)
  · obtain ⟨x, rfl, _⟩ := h
    rfl
  obtain ⟨x, rfl, hB, q⟩ := h
  have nd := scRelD.nd
  refine ⟨_, pss_cons (ps_set (i := 1) nd rfl (Or.inl rfl) (pe_ix ix_list (pe_lst (pa_cons pe_int (pa_cons pe_int (pa_cons pe_int (pa_cons pe_int (pa_cons pe_int (pa_cons pe_int (pa_cons pe_int pa_nil)))))))) (pe_dn G hr rfl (pa_cons (pv 0) (pa_cons pe_int pa_nil))) (fun _ _ => rfl)))
    (pss_cons (ps_set (i := 2) nd rfl (Or.inl rfl) (pe_lst pa_nil))
    (pss_cons (ps_for PassesOwn.never rfl (pi_range1 rfl B.range (pa_cons (pe_op op_add pe_int (pe_dn G hr rfl (pa_cons (pv 0) (pa_cons pe_int pa_nil)))) pa_nil)) (pg_name (i := 3) nd rfl (Or.inl rfl))
      (pss_cons (ps_set (i := 4) nd rfl (Or.inl rfl) (pe_dn G hr rfl (pa_cons (pv 0) (pa_cons (pe_ix ix_list (pe_lst (pa_cons pe_int (pa_cons pe_int pa_nil))) (pe_callTy call_int1 rfl B.int (by decide +kernel) (pa_cons (pe_cmpR op_in_seq (pv 1) (pe_tup (pa_cons pe_int (pa_cons pe_int (pa_cons pe_int pa_nil)))) (by rfl)) pa_nil)) (fun _ _ => rfl)) pa_nil))))
      (pss_one (ps_expr (pe_bm PySem.F.plainAttrs_list PySem.F.slot_list_append PySem.F.type_list_append mt_append (pv 2) (pa_cons (pe_tup (pa_cons (pv 4) (pa_cons (pe_op op_add (pv 4) (pe_ix ix_list (pe_lst (pa_cons pe_int (pa_cons pe_int (pa_cons pe_int (pa_cons pe_int pa_nil))))) (pe_dn G hr rfl (pa_cons (pv 0) (pa_cons pe_int pa_nil))) (fun _ _ => rfl))) pa_nil))) pa_nil))))))
    (pss_one (ps_ret (pe_tup (pa_cons (pv 1) (pa_cons (pe_cmpR op_gt (pe_dn G hr rfl (pa_cons (pv 0) (pa_cons pe_int pa_nil))) pe_int (nomark _)) (pa_cons (pv 2) pa_nil)))))))), ?_⟩
  refine ⟨(by show 7 ≤ sizeLine; decide), fun l hl => ?_⟩
  have dn := Dw.new (o := .lst [V.int 0, V.int 0, V.int 2, V.int 3, V.int 4, V.int 10, V.int 100]) hB hl
  refine ⟨_, rfl, x, 7, rfl, hB.dw dn, by decide, fun r H1 r0 r1 d1 => ?_⟩
  have d01 := dn.trans d1
  have hl1 := d1.lst (xs := [V.int 0, V.int 0, V.int 2, V.int 3, V.int 4, V.int 10, V.int 100]) upd_same (fun z => hB.bat (by rw [← z]; exact hl))
  obtain ⟨m, hm⟩ := int_at (xs := [V.int 0, V.int 0, V.int 2, V.int 3, V.int 4, V.int 10, V.int 100]) (by simp) r0 r1
  refine ⟨l, _, _, _, rfl, rfl, SqL.of hl1, hm, (by show 0 ≤ sizeLine; decide), fun p hp => ?_⟩
  have B1 := hB.dw d01
  have np : p ≠ x.b := fun z => B1.bat (by rw [← z]; exact hp)
  have k1 := Wk.start (o := .lst []) B1 hp
  have hp0 : (upd H1 p (.lst [])) p ≠ none := by
    rw [upd_same]
    intro z
    cases z
  have c0 : LsI IsRng p 0 (upd H1 p (.lst [])) (upd H1 p (.lst [])) [] [] := ⟨upd_same, .nil, Nat.le_refl _⟩
  generalize hH0 : upd H1 p (.lst []) = H0 at k1 hp0 c0
  refine ⟨_, rfl, x, 3, rfl, k1.cur, by decide, fun n H2 n0 n1 d2 => ?_⟩
  have k2 := k1.step d2
  have c2 := c0.step hRng k1.b0 np d2
  refine ⟨_, _, rfl, rfl, 1 + n, rfl, by omega, by omega, for_range (n := (1 + n).toNat) (fun i σ H' => ∃ (o3 o4 : Option V) (acc : List V) (xs : List (Int × Int)), σ = [some (.ref x.b), some (.int m), some (.ref p), o3, o4] ∧ Wk x H1 H0 H' ∧ LsI IsRng p i H0 H' acc xs)
    ⟨none, none, [], [], rfl, k2, c2⟩ ?_ ?_⟩
  · rintro i σ H' hi ⟨o3, o4, acc, xs, rfl, hk, c⟩
    refine ⟨_, rfl, (by show 2 ≤ sizeLine; decide), fun l2 hl2 => ?_⟩
    have dl := Dw.new (o := .lst [V.int 12, V.int 4]) hk.cur hl2
    have hk2 := hk.step dl
    refine ⟨_, rfl, (by show 3 ≤ sizeLine; decide), fun t ht => ?_⟩
    have dt := Dw.new (o := .tup [V.int 2, V.int 3, V.int 4]) hk2.cur ht
    have hk3 := hk2.step dt
    have c3 := (c.step hRng hk.b0 np dl).step hRng hk.b0 np dt
    refine ⟨t, _, rfl, .inr (SqT.of upd_same), rfl, rfl, .inr ⟨_, rfl, ?_⟩⟩
    have hl3 : upd (upd H' l2 (.lst [V.int 12, V.int 4])) t (.tup [V.int 2, V.int 3, V.int 4]) l2 = some (.lst [V.int 12, V.int 4]) := by
      rw [upd_ne (ne_of_none upd_same ht), upd_same]
    have pick : ∃ many : Int, atI [V.int 12, V.int 4] (if (if false = true then !inV (V.int m) [V.int 2, V.int 3, V.int 4] else inV (V.int m) [V.int 2, V.int 3, V.int 4]) = true then 1 else 0) = some (.int many) ∧ 0 < many := by
      cases (if false = true then !inV (V.int m) [V.int 2, V.int 3, V.int 4] else inV (V.int m) [V.int 2, V.int 3, V.int 4]) with
      | true => exact ⟨4, rfl, by decide⟩
      | false => exact ⟨12, rfl, by decide⟩
    obtain ⟨many, hmany, hpos⟩ := pick
    refine ⟨l2, _, _, _, rfl, rfl, SqL.of hl3, hmany, x, many, rfl, hk3.cur, hpos, fun low H3 l0 l1 d3 => ?_⟩
    have hk4 := hk3.step d3
    have c4 := c3.step hRng hk.b0 np d3
    refine ⟨_, rfl, .inl ⟨rfl, _, SqL.of c4.hp⟩, _, rfl, _, rfl, (by show 4 ≤ sizeLine; decide), fun l4 hl4 => ?_⟩
    have dl4 := Dw.new (o := .lst [V.int 0, V.int 0, V.int 1, V.int 3]) hk4.cur hl4
    have hk5 := hk4.step dl4
    refine ⟨_, rfl, x, 4, rfl, hk5.cur, by decide, fun r' H4 r0' r1' d4 => ?_⟩
    have hk6 := hk5.step d4
    have c6 := (c4.step hRng hk.b0 np dl4).step hRng hk.b0 np d4
    have hl6 := d4.lst (xs := [V.int 0, V.int 0, V.int 1, V.int 3]) upd_same (fun z => hk4.dw.bat (by rw [← z]; exact hl4))
    obtain ⟨df, hdf⟩ := int_at (xs := [V.int 0, V.int 0, V.int 1, V.int 3]) (by simp) r0' r1'
    refine ⟨l4, _, _, _, rfl, rfl, SqL.of hl6, hdf, _, _, rfl, rfl, (by show 2 ≤ sizeLine; decide), fun t2 ht2 => ?_⟩
    have dt2 := Dw.new (o := .tup [V.int low, V.int (low + df)]) hk6.cur ht2
    have hk7 := hk6.step dt2
    have c7 := c6.step hRng hk.b0 np dt2
    refine ⟨p, _, _, rfl, rfl, c7.hp, c7.small (by omega), _, _, _, _, rfl, hk7.wr hp hp0, c7.add hRng hp0 (a := (low, low + df)) ⟨t2, rfl, hk6.newAt ht2⟩⟩
  · rintro σ H' ⟨o3, o4, acc, xs, rfl, hk, c⟩
    refine ⟨_, rfl, _, rfl, x, 3, rfl, hk.cur, by decide, fun r3 H3 _ _ d3 => ⟨_, _, rfl, rfl, _, rfl, (by show 3 ≤ sizeLine; decide), fun t ht => ?_⟩⟩
    have hk3 := hk.step d3
    have c3 := c.step hRng hk.b0 np d3
    have dt := Dw.new (o := .tup [V.int m, V.bl (decide (0 < r3)), .ref p]) hk3.cur ht
    have hk4 := hk3.step dt
    have c4 := c3.step hRng hk.b0 np dt
    have low : ∀ c, H1 c = none → H c = none := fun c e => d01.free e
    have s : Same (fr H1 (upd H3 t (.tup [V.int m, V.bl (decide (0 < r3)), .ref p]))) (fr H (upd H3 t (.tup [V.int m, V.bl (decide (0 < r3)), .ref p]))) := fr_base low
    exact q (.ref t) (m, decide (0 < r3), xs) _ (d01.trans hk4.dw) ⟨t, .ref p, rfl, s _ _ (hk4.up _ _ (hk3.newAt ht)), (c4.is hRng hk4 hp).mn (Mn.same s) fun _ _ z => z.mn (Mn.same s)⟩
/-! ### _law_condition -/
def spCondD : Sp := fun vs H Q _ => ∃ x : Bx, vs = [.ref x.b] ∧ Box x H ∧ ∀ (v : V) (c : Cond) (H' : Hp), Dw x H H' → IsCond (fr H H') v c → Q v H'
abbrev nCondD : List Str := ["_law_box", "_law_rows", "_law_turn", "_law_k"]
theorem scCondD : FnScope nCondD ["_law_box"] (defScope sCondD) := ⟨rfl, rfl, rfl, by decide +kernel, rfl, by decide +kernel, by decide +kernel⟩
theorem ok_condD {f : Addr} {fd : FuncData} (F : Fun K "_law_condition" "_law_condition" sCondD f fd) (B : Bt mg) (G : Dn P w K mg base CX0 "_law_draw" pDraw 1 spDraw) (GR : Dn P w K mg base CX0 "_law_relation" ["_law_box"] 2 spRelD) : FnOk P w K mg base CX0 3 f fd ["_law_box"] spCondD := by
  refine F.ok scCondD (fun vs H Q E h => ?_) (fun cdv A outer s H vs Q E hr h => ?_)
  · obtain ⟨x, rfl, _⟩ := h
    rfl
  obtain ⟨x, rfl, hB, q⟩ := h
  have nd := scCondD.nd
  have hr1 := hr.mono (j := 1) (by decide)
  refine ⟨_, pss_cons (ps_set (i := 1) nd rfl (Or.inl rfl) (pe_lst pa_nil))
    (pss_cons (ps_for PassesOwn.never rfl (pi_range1 rfl B.range (pa_cons (pe_op op_add pe_int (pe_dn G hr1 rfl (pa_cons (pv 0) (pa_cons pe_int pa_nil)))) pa_nil)) (pg_name (i := 2) nd rfl (Or.inl rfl))
      (pss_one (ps_expr (pe_bm PySem.F.plainAttrs_list PySem.F.slot_list_append PySem.F.type_list_append mt_append (pv 1) (pa_cons
        (pe_lc (own := [("_law_k", 3)]) (g := gName 3) (tt := tYes) (te := tCall spRelD [] E0 (tCons (tVar 0) tNil)) (by rfl) nd (pi_range1 rfl B.range (pa_cons (pe_op op_add pe_int (pe_dn G hr1 rfl (pa_cons (pv 0) (pa_cons pe_int pa_nil)))) pa_nil))
          (blkOk_by (own := [("_law_k", 3)]) (N := nCondD) (sc := defScope sCondD) (by decide +kernel)) (fun _ _ _ _ _ => pg_name (i := 3) nd rfl (Or.inl rfl)) (fun _ _ _ _ _ => pts_nil) (fun _ _ _ _ _ => pe_dn GR hr rfl (pa_cons (pv 0) pa_nil))) pa_nil)))))
    (pss_one (ps_ret (pv 1)))), ?_⟩
  refine ⟨(by show 0 ≤ sizeLine; decide), fun p hp => ?_⟩
  have np : p ≠ x.b := fun z => hB.bat (by rw [← z]; exact hp)
  have k1 := Wk.start (o := .lst []) hB hp
  have hp0 : (upd H p (.lst [])) p ≠ none := by
    rw [upd_same]
    intro z
    cases z
  have c0 : LsI IsRow p 0 (upd H p (.lst [])) (upd H p (.lst [])) [] [] := ⟨upd_same, .nil, Nat.le_refl _⟩
  generalize hH0 : upd H p (.lst []) = H0 at k1 hp0 c0
  refine ⟨_, rfl, x, 2, rfl, k1.cur, by decide, fun n H2 n0 n1 d2 => ?_⟩
  have k2 := k1.step d2
  have c2 := c0.step hRow k1.b0 np d2
  refine ⟨_, _, rfl, rfl, 1 + n, rfl, by omega, by omega, for_range (n := (1 + n).toNat) (fun i σ H' => ∃ (o2 : Option V) (acc : List V) (xs : List (List Rel)), σ = [some (.ref x.b), some (.ref p), o2, none] ∧ Wk x H H0 H' ∧ LsI IsRow p i H0 H' acc xs)
    ⟨none, [], [], rfl, k2, c2⟩ ?_ ?_⟩
  · rintro i σ H' hi ⟨o2, acc, xs, rfl, hk, c⟩
    refine ⟨_, rfl, .inl ⟨rfl, _, SqL.of c.hp⟩, _, rfl, x, 2, rfl, hk.cur, by decide, fun n' H3 n0' n1' d3 => ?_⟩
    have hk3 := hk.step d3
    have c3 := c.step hRow hk.b0 np d3
    refine ⟨_, _, rfl, rfl, 1 + n', rfl, by omega, by omega, fun D hD => ?_⟩
    have j1 := Wk.start (o := .lst []) hk3.cur hD
    have hD0 : (upd H3 D (.lst [])) D ≠ none := by
      rw [upd_same]
      intro z
      cases z
    have nD : D ≠ x.b := fun z => hk3.dw.bat (by rw [← z]; exact hD)
    have e0 : LsI IsRel D 0 (upd H3 D (.lst [])) (upd H3 D (.lst [])) [] [] := ⟨upd_same, .nil, Nat.le_refl _⟩
    refine lc_range (lo := 0) (n := (1 + n').toNat) (fun j H4 => ∃ (acc : List V) (xs : List Rel), Wk x H3 (upd H3 D (.lst [])) H4 ∧ LsI IsRel D j (upd H3 D (.lst [])) H4 acc xs) ⟨[], [], j1, e0⟩ ?_ ?_
    · rintro j H4 hj ⟨acc', xs', hj4, e4⟩
      refine ⟨rfl, _, rfl, x, rfl, hj4.cur, fun v r H5 d5 hv => ?_⟩
      have hj5 := hj4.step d5
      have e5 := e4.step hRel hj4.b0 nD d5
      exact ⟨acc', e5.hp, e5.small (by omega), _, _, hj5.wr hD hD0, e5.add hRel hD0 (hv.mn (Mn.same (fr_base hj4.dom)))⟩
    · rintro H4 ⟨acc', xs', hj4, e4⟩
      have hrow : IsRow (fr H3 H4) (.ref D) xs' := e4.is hRel hj4 hD
      have hk4 := hk3.step hj4.dw
      have c4 := c3.step hRow hk.b0 np hj4.dw
      exact ⟨p, _, _, rfl, rfl, c4.hp, c4.small (by omega), _, _, _, rfl, hk4.wr hp hp0, c4.add hRow hp0 (IsRow.mn (Mn.same (fr_base hk3.dom)) hrow)⟩
  · rintro σ H' ⟨o2, acc, xs, rfl, hk, c⟩
    exact ⟨_, rfl, q (.ref p) xs H' hk.dw (c.is hRow hk hp)⟩
/-! ### _law_rules -/
def spRulesD : Sp := fun vs H Q _ => ∃ x : Bx, vs = [.ref x.b] ∧ Box x H ∧ ∀ (p : Addr) (acc : List V) (rs : Rules) (H' : Hp), Dw x H H' → fr H H' p = some (.lst acc) → Paired (IsRule (fr H H')) acc rs → Q (.ref p) H'
abbrev nRulesD : List Str := ["_law_box", "_law_rules_here", "_law_category_here"]
theorem scRulesD : FnScope nRulesD ["_law_box"] (defScope sRulesD) := ⟨rfl, rfl, rfl, by decide +kernel, rfl, by decide +kernel, by decide +kernel⟩
abbrev catNames : List Str := ["zero", "one", "two", "few", "many"]
theorem ok_rulesD {f : Addr} {fd : FuncData} (F : Fun K "_law_rules" "_law_rules" sRulesD f fd) (G : Dn P w K mg base CX0 "_law_draw" pDraw 1 spDraw) (GC : Dn P w K mg base CX0 "_law_condition" ["_law_box"] 3 spCondD) : FnOk P w K mg base CX0 4 f fd ["_law_box"] spRulesD := by
  refine F.ok scRulesD (fun vs H Q E h => ?_) (fun cdv A outer s H vs Q E hr h => ?_)
  · obtain ⟨x, rfl, _⟩ := h
    rfl
  obtain ⟨x, rfl, hB, q⟩ := h
  have nd := scRulesD.nd
  have hr1 := hr.mono (j := 1) (by decide)
  refine ⟨_, pss_cons (ps_set (i := 1) nd rfl (Or.inl rfl) (pe_lst pa_nil))
    (pss_cons (ps_for PassesOwn.never rfl (pi_list (pe_lst (pa_cons pe_str (pa_cons pe_str (pa_cons pe_str (pa_cons pe_str (pa_cons pe_str pa_nil))))))) (pg_name (i := 2) nd rfl (Or.inl rfl))
      (pss_one (ps_if (pt_cmpR op_eq (pe_dn G hr1 rfl (pa_cons (pv 0) (pa_cons pe_int pa_nil))) pe_int (nomark _))
        (pss_one (ps_expr (pe_bm PySem.F.plainAttrs_list PySem.F.slot_list_append PySem.F.type_list_append mt_append (pv 1) (pa_cons (pe_tup (pa_cons (pv 2) (pa_cons (pe_dn GC hr rfl (pa_cons (pv 0) pa_nil)) pa_nil))) pa_nil)))) pss_nil)))
    (pss_one (ps_ret (pv 1)))), ?_⟩
  refine ⟨(by show 0 ≤ sizeLine; decide), fun p hp => ?_⟩
  have np : p ≠ x.b := fun z => hB.bat (by rw [← z]; exact hp)
  have k1 := Wk.start (o := .lst []) hB hp
  refine ⟨(by show 5 ≤ sizeLine; decide), fun l hl => ?_⟩
  have nl : l ≠ x.b := fun z => k1.dw.bat (by rw [← z]; exact hl)
  have npl : p ≠ l := ne_of_none upd_same hl
  have k2 := k1.more (o := .lst (catNames.map V.str)) hl
  have hp0 : (upd (upd H p (.lst [])) l (.lst (catNames.map V.str))) p ≠ none := by
    rw [upd_ne npl, upd_same]
    intro z
    cases z
  have c0 : LsI IsRule p 0 (upd (upd H p (.lst [])) l (.lst (catNames.map V.str))) (upd (upd H p (.lst [])) l (.lst (catNames.map V.str))) [] [] := ⟨by rw [upd_ne npl, upd_same], .nil, Nat.le_refl _⟩
  generalize hH0 : upd (upd H p (.lst [])) l (.lst (catNames.map V.str)) = H0 at k2 hp0 c0
  have gH0 : upd (upd H p (.lst [])) l (.lst [V.str "zero", V.str "one", V.str "two", V.str "few", V.str "many"]) = H0 := hH0
  refine ⟨l, rfl, ⟨_, SqL.of upd_same⟩, ?_⟩
  refine for_list (K := K) (a := l) (xs := catNames.map V.str) (fun i σ H' => ∃ (o2 : Option V) (acc : List V) (rs : Rules), σ = [some (.ref x.b), some (.ref p), o2] ∧ Wk x H H0 H' ∧ H' l = some (.lst (catNames.map V.str)) ∧ LsI IsRule p i H0 H' acc rs)
    ⟨none, [], [], rfl, ?_, ?_, ?_⟩ (fun i σ H' _ ⟨_, _, _, _, _, e, _⟩ => SqL.of e) ?_ ?_
  · rw [gH0]; exact k2
  · exact upd_same
  · rw [gH0]; exact c0
  · rintro i y σ H' hy ⟨o2, acc, rs, rfl, hk, hl', c⟩
    rw [List.getElem?_map] at hy
    obtain ⟨cn, hcn, rfl⟩ := Option.map_eq_some_iff.mp hy
    have hi : i < 5 := (List.getElem?_eq_some_iff.mp hcn).1
    refine ⟨_, rfl, x, 3, rfl, hk.cur, by decide, fun r H3 r0 r1 d => ?_⟩
    have hk3 := hk.step d
    have c3 := c.step hRule hk.b0 np d
    have hl3 := d.lst hl' nl
    refine ⟨rfl, _, rfl, ite2 (fun _ => ?_) (fun _ => ?_)⟩
    · refine ⟨_, rfl, .inl ⟨rfl, _, SqL.of c3.hp⟩, _, rfl, _, rfl, x, rfl, hk3.cur, fun v cd H4 d4 hv => ⟨(by show 2 ≤ sizeLine; decide), fun t ht => ?_⟩⟩
      have hk4 := hk3.step d4
      have c4 := c3.step hRule hk.b0 np d4
      have dt := Dw.new (o := .tup [V.str cn, v]) hk4.cur ht
      have hk5 := hk4.step dt
      have c5 := c4.step hRule hk.b0 np dt
      have hv5 := IsCond.mn (Mn.same (hk4.same dt)) (IsCond.mn (Mn.same (fr_base (H := H4) hk3.dom)) hv)
      refine ⟨p, _, _, rfl, rfl, c5.hp, c5.small (by omega), _, _, _, rfl, hk5.wr hp hp0, ?_, c5.add hRule hp0 (a := (cn, cd)) ⟨t, v, rfl, hk4.newAt ht, hv5⟩⟩
      rw [upd_ne npl.symm, upd_ne (ne_of_none (d4.lst hl3 nl) ht)]
      exact d4.lst hl3 nl
    · exact ⟨_, _, _, rfl, hk3, hl3, c3.more⟩
  · rintro σ H' ⟨o2, acc, rs, rfl, hk, hl', c⟩
    exact ⟨_, rfl, q p acc rs H' hk.dw (by rw [fr_at hp]; exact c.hp) (Paired.mapP c.pr fun _ _ z => z.mn (Mn.same hk.up))⟩
end
end MW

set_option Elab.async false
set_option linter.all false
set_option maxRecDepth 100000
set_option maxHeartbeats 2000000
/-! W11: _law_cell, _law_digits. -/
namespace MW
open PySem PySem.Spec PyProof.Rows L2
open GA (Tk TG CodeT)
abbrev sCell : Stmt := top 26
abbrev sDigits : Stmt := top 27
section
variable {P : Program} {w : World} {K : PySem.W.Frag} {mg : Str → Option Value} {base : Heap}
def spCell (K : PySem.W.Frag) : Sp := fun vs H Q _ => ∃ (a : Addr) (ns : List Int) (k : Int), vs = [.ref a, .int k] ∧ SqL K H a (ns.map V.int) ∧ 0 ≤ k ∧ ∀ i : Int, Q (.int i) H
abbrev pCell : List Str := ["_law_script", "_law_k"]
theorem scCell : FnScope pCell pCell (defScope sCell) := ⟨rfl, rfl, rfl, by decide +kernel, rfl, by decide +kernel, by decide +kernel⟩
theorem ok_cell {f : Addr} {fd : FuncData} (F : Fun K "_law_cell" "_law_cell" sCell f fd) (B : Bt mg) : FnOk P w K mg base CX0 1 f fd pCell (spCell K) := by
  refine F.ok scCell (fun vs H Q E h => ?_) (fun cdv A outer s H vs Q E hr h => ?_)
  · obtain ⟨a, ns, k, rfl, _⟩ := h
    rfl
  obtain ⟨a, ns, k, rfl, hS, h0, q⟩ := h
  refine ⟨_, pss_cons (ps_if (pt_cmpR op_lt (pv 1) (pe_callB call_len_seq rfl B.len PySem.boot_len (pa_cons (pv 0) pa_nil)) (nomark _)) (pss_one (ps_ret (pe_ix ix_list (pv 0) (pv 1) (fun _ _ => rfl)))) pss_nil)
    (pss_one (ps_ret pe_int)), ?_⟩
  refine ⟨_, rfl, _, rfl, a, _, rfl, .inl hS, _, _, rfl, rfl, _, rfl, ite2 (fun c => ?_) (fun c => q 0)⟩
  have c' : k < ((ns.map V.int).length : Int) := of_decide_eq_true c
  obtain ⟨v, hv, hm⟩ := atI_lt h0 c'
  obtain ⟨i, _, rfl⟩ := List.mem_map.mp hm
  exact ⟨_, rfl, _, rfl, a, _, _, _, rfl, rfl, hS, hv, q i⟩
theorem n1000 : (1000 : Int) ≠ 0 := by decide
theorem nBig : (2147483647 : Int) ≠ 0 := by decide
/-! ### _law_digits -/
def spDigits (K : PySem.W.Frag) : Sp := fun vs H Q _ => ∃ (a : Addr) (ns : List Int), vs = [.ref a, .int 0, .int 63] ∧ SqL K H a (ns.map V.int) ∧ ∀ (p : Addr) (ms : List Int) (H' : Hp), Same H H' → H p = none → H' p = some (.lst (ms.map V.int)) → ms.length ≤ 100000 → Q (.ref p) H'
abbrev nDigits : List Str := ["_law_script", "_law_first", "_law_last", "_law_digits_here", "_law_k", "_law_cell_here", "_law_turn", "_law_seed"]
abbrev pDigits : List Str := ["_law_script", "_law_first", "_law_last"]
theorem scDigits : FnScope nDigits pDigits (defScope sDigits) := ⟨rfl, rfl, rfl, by decide +kernel, rfl, by decide +kernel, by decide +kernel⟩
/-- the digits so far -/
structure Dg (p : Addr) (n : Nat) (H H' : Hp) : Prop where
  same : Same H H'
  new : H p = none
  lst : ∃ ms : List Int, H' p = some (.lst (ms.map V.int)) ∧ ms.length ≤ n
theorem Dg.add {p : Addr} {n : Nat} {H H' : Hp} (h : Dg p n H H') {ms : List Int} (e : H' p = some (.lst (ms.map V.int))) (hl : ms.length ≤ n) (i : Int) : Dg p (n + 1) H (upd H' p (.lst (ms.map V.int ++ [V.int i]))) :=
  ⟨fun c o z => by rw [upd_ne (ne_of_none z h.new)]; exact h.same c o z, h.new, ms ++ [i], by rw [upd_same, List.map_append]; rfl, by rw [List.length_append, List.length_singleton]; omega⟩
theorem Dg.more {p : Addr} {n m : Nat} {H H' : Hp} (h : Dg p n H H') (hm : n ≤ m) : Dg p m H H' := ⟨h.same, h.new, let ⟨ms, e, l⟩ := h.lst; ⟨ms, e, Nat.le_trans l hm⟩⟩
theorem ok_digits {f : Addr} {fd : FuncData} (F : Fun K "_law_digits" "_law_digits" sDigits f fd) (B : Bt mg) (G : Dn P w K mg base CX0 "_law_cell" pCell 1 (spCell K)) : FnOk P w K mg base CX0 2 f fd pDigits (spDigits K) := by
  refine F.ok scDigits (fun vs H Q E h => ?_) (fun cdv A outer s H vs Q E hr h => ?_)
  · obtain ⟨a, ns, rfl, _⟩ := h
    rfl
  obtain ⟨a, ns, rfl, hS, q⟩ := h
  have nd := scDigits.nd
  refine ⟨_, pss_cons (ps_set (i := 3) nd rfl (Or.inl rfl) (pe_lst pa_nil))
    (pss_cons (ps_for PassesOwn.never rfl (pi_range2 rfl B.range (pa_cons (pv 1) (pa_cons (pv 2) pa_nil))) (pg_name (i := 4) nd rfl (Or.inl rfl))
      (pss_cons (ps_set (i := 5) nd rfl (Or.inl rfl) (pe_dn G hr rfl (pa_cons (pv 0) (pa_cons (pv 4) pa_nil))))
      (pss_cons (ps_if (pt_cmpR op_lt (pv 5) pe_int (nomark _)) (pss_one (ps_set (i := 5) nd rfl (Or.inl rfl) (pe_op op_sub pe_int (pe_op op_mul pe_int (pv 5))))) pss_nil)
      (pss_one (ps_if (pt_cmpR op_ge (pv 5) (pe_op op_pow pe_int pe_int) (nomark _))
        (pss_one (ps_for PassesOwn.never rfl (pi_range1 rfl B.range (pa_cons pe_int pa_nil)) (pg_name (i := 6) nd rfl (Or.inl rfl))
          (pss_one (ps_if (pt_cmpR op_gt (pv 5) pe_int (nomark _))
            (pss_cons (ps_expr (pe_bm PySem.F.plainAttrs_list PySem.F.slot_list_append PySem.F.type_list_append mt_append (pv 3) (pa_cons (pe_op op_modN (pe_callTy call_int1 rfl B.int (by decide +kernel) (pa_cons (pv 5) pa_nil)) pe_int) pa_nil)))
            (pss_one (ps_set (i := 5) nd rfl (Or.inl rfl) (pe_op op_fdivN (pv 5) pe_int)))) pss_nil))))
        (pss_cons (ps_set (i := 7) nd rfl (Or.inl rfl) (pe_op op_modN (pe_callTy call_int1 rfl B.int (by decide +kernel) (pa_cons (pe_op op_add (pe_op op_add (pe_op op_mul (pv 5) pe_int) (pe_op op_mul (pv 4) pe_int)) pe_int) pa_nil)) pe_int))
        (pss_one (ps_for PassesOwn.never rfl (pi_range1 rfl B.range (pa_cons pe_int pa_nil)) (pg_name (i := 6) nd rfl (Or.inl rfl))
          (pss_cons (ps_set (i := 7) nd rfl (Or.inl rfl) (pe_op op_modN (pe_callTy call_int1 rfl B.int (by decide +kernel) (pa_cons (pe_op op_add (pe_op op_add (pe_op op_mul (pv 7) pe_int) (pe_op op_mul pe_int (pv 6))) pe_int) pa_nil)) pe_int))
          (pss_one (ps_expr (pe_bm PySem.F.plainAttrs_list PySem.F.slot_list_append PySem.F.type_list_append mt_append (pv 3) (pa_cons (pe_op op_modN (pe_callTy call_int1 rfl B.int (by decide +kernel) (pa_cons (pe_op op_fdivN (pv 7) pe_int) pa_nil)) pe_int) pa_nil)))))))))))))
    (pss_one (ps_ret (pv 3)))), ?_⟩
  refine ⟨(by show 0 ≤ sizeLine; decide), fun p hp => ?_⟩
  have g0 : Dg p (60 * 0) H (upd H p (.lst [])) := ⟨fun c o e => by rw [upd_ne (ne_of_none e hp)]; exact e, hp, [], upd_same, Nat.le_refl _⟩
  refine ⟨_, rfl, _, rfl, 0, 63, rfl, ⟨by decide, by decide, by decide, by decide⟩, for_range (lo := 0) (n := 63) (fun i σ H' => ∃ o4 o5 o6 o7 : Option V, σ = [some (.ref a), some (.int 0), some (.int 63), some (.ref p), o4, o5, o6, o7] ∧ Dg p (60 * i) H H')
    ⟨none, none, none, none, rfl, g0⟩ ?_ ?_⟩
  · rintro i σ H' hi ⟨o4, o5, o6, o7, rfl, g⟩
    refine ⟨_, rfl, _, rfl, a, ns, 0 + (i : Int), rfl, g.same.seq hS, by omega, fun c => ?_⟩
    refine ⟨_, rfl, _, _, rfl, rfl, _, rfl, ite2 (fun _ => ?_) (fun _ => ?_)⟩
    · refine ⟨_, rfl, _, _, rfl, rfl, .inl ⟨by decide, by decide⟩, _, _, rfl, rfl, ?_⟩
      refine ⟨_, rfl, _, _, rfl, rfl, ⟨by decide, by decide, by decide⟩, _, _, rfl, rfl, _, rfl, ite2 (fun _ => ?_) (fun _ => ?_)⟩
      · refine ⟨60, rfl, by decide, by decide, for_range (n := 60) (fun t σ H2 => ∃ (z : Int) (o6 o7 : Option V), σ = [some (.ref a), some (.int 0), some (.int 63), some (.ref p), some (.int (0 + (i : Int))), some (.int z), o6, o7] ∧ Dg p (60 * i + t) H H2)
          ⟨_, _, _, rfl, g.more (by omega)⟩ ?_ ?_⟩
        · rintro t σ H2 ht ⟨z, o6, o7, rfl, g2⟩
          obtain ⟨ms, e, l⟩ := g2.lst
          have small : (ms.map V.int).length < sizeLine := by
            rw [List.length_map, sizeLine_eq]
            omega
          refine ⟨_, rfl, _, _, rfl, rfl, _, rfl, ite2 (fun _ => ?_) (fun _ => ⟨z, _, _, rfl, g2.more (by omega)⟩)⟩
          exact ⟨_, rfl, .inl ⟨rfl, _, SqL.of e⟩, _, rfl, .inl ⟨_, rfl, _, _, rfl, rfl, n1000, p, _, _, rfl, rfl, e, small, _, rfl, _, _, rfl, rfl, ⟨by decide, by decide⟩, _, _, _, rfl, g2.add e l _⟩⟩
        · rintro σ H2 ⟨z, o6, o7, rfl, g2⟩
          exact ⟨_, _, _, _, rfl, g2.more (by omega)⟩
      · refine ⟨_, rfl, _, _, rfl, rfl, .inr ⟨by decide, by decide⟩, _, rfl, _, _, rfl, rfl, .inr ⟨by decide, by decide⟩, _, _, rfl, rfl, _, _, rfl, rfl, .inl ⟨_, rfl, _, _, rfl, rfl, nBig, ?_⟩⟩
        refine ⟨12, rfl, by decide, by decide, for_range (n := 12) (fun t σ H2 => ∃ (z y : Int) (o6 : Option V), σ = [some (.ref a), some (.int 0), some (.int 63), some (.ref p), some (.int (0 + (i : Int))), some (.int z), o6, some (.int y)] ∧ Dg p (60 * i + t) H H2)
          ⟨_, _, _, rfl, g.more (by omega)⟩ ?_ ?_⟩
        · rintro t σ H2 ht ⟨z, y, o6, rfl, g2⟩
          obtain ⟨ms, e, l⟩ := g2.lst
          have small : (ms.map V.int).length < sizeLine := by
            rw [List.length_map, sizeLine_eq]
            omega
          refine ⟨_, rfl, _, _, rfl, rfl, .inr ⟨by decide, by decide⟩, _, rfl, _, _, rfl, rfl, .inl ⟨by decide, by decide⟩, _, _, rfl, rfl, _, _, rfl, rfl, .inl ⟨_, rfl, _, _, rfl, rfl, nBig, ?_⟩⟩
          exact ⟨_, rfl, .inl ⟨rfl, _, SqL.of e⟩, _, rfl, _, _, rfl, rfl, ⟨by decide, by decide⟩, .inl ⟨_, rfl, _, _, rfl, rfl, n1000, p, _, _, rfl, rfl, e, small, _, _, _, rfl, g2.add e l _⟩⟩
        · rintro σ H2 ⟨z, y, o6, rfl, g2⟩
          exact ⟨_, _, _, _, rfl, g2.more (by omega)⟩
    · refine ⟨_, rfl, _, _, rfl, rfl, ⟨by decide, by decide, by decide⟩, _, _, rfl, rfl, _, rfl, ite2 (fun _ => ?_) (fun _ => ?_)⟩
      · refine ⟨60, rfl, by decide, by decide, for_range (n := 60) (fun t σ H2 => ∃ (z : Int) (o6 o7 : Option V), σ = [some (.ref a), some (.int 0), some (.int 63), some (.ref p), some (.int (0 + (i : Int))), some (.int z), o6, o7] ∧ Dg p (60 * i + t) H H2)
          ⟨_, _, _, rfl, g.more (by omega)⟩ ?_ ?_⟩
        · rintro t σ H2 ht ⟨z, o6, o7, rfl, g2⟩
          obtain ⟨ms, e, l⟩ := g2.lst
          have small : (ms.map V.int).length < sizeLine := by
            rw [List.length_map, sizeLine_eq]
            omega
          refine ⟨_, rfl, _, _, rfl, rfl, _, rfl, ite2 (fun _ => ?_) (fun _ => ⟨z, _, _, rfl, g2.more (by omega)⟩)⟩
          exact ⟨_, rfl, .inl ⟨rfl, _, SqL.of e⟩, _, rfl, .inl ⟨_, rfl, _, _, rfl, rfl, n1000, p, _, _, rfl, rfl, e, small, _, rfl, _, _, rfl, rfl, ⟨by decide, by decide⟩, _, _, _, rfl, g2.add e l _⟩⟩
        · rintro σ H2 ⟨z, o6, o7, rfl, g2⟩
          exact ⟨_, _, _, _, rfl, g2.more (by omega)⟩
      · refine ⟨_, rfl, _, _, rfl, rfl, .inr ⟨by decide, by decide⟩, _, rfl, _, _, rfl, rfl, .inr ⟨by decide, by decide⟩, _, _, rfl, rfl, _, _, rfl, rfl, .inl ⟨_, rfl, _, _, rfl, rfl, nBig, ?_⟩⟩
        refine ⟨12, rfl, by decide, by decide, for_range (n := 12) (fun t σ H2 => ∃ (z y : Int) (o6 : Option V), σ = [some (.ref a), some (.int 0), some (.int 63), some (.ref p), some (.int (0 + (i : Int))), some (.int z), o6, some (.int y)] ∧ Dg p (60 * i + t) H H2)
          ⟨_, _, _, rfl, g.more (by omega)⟩ ?_ ?_⟩
        · rintro t σ H2 ht ⟨z, y, o6, rfl, g2⟩
          obtain ⟨ms, e, l⟩ := g2.lst
          have small : (ms.map V.int).length < sizeLine := by
            rw [List.length_map, sizeLine_eq]
            omega
          refine ⟨_, rfl, _, _, rfl, rfl, .inr ⟨by decide, by decide⟩, _, rfl, _, _, rfl, rfl, .inl ⟨by decide, by decide⟩, _, _, rfl, rfl, _, _, rfl, rfl, .inl ⟨_, rfl, _, _, rfl, rfl, nBig, ?_⟩⟩
          exact ⟨_, rfl, .inl ⟨rfl, _, SqL.of e⟩, _, rfl, _, _, rfl, rfl, ⟨by decide, by decide⟩, .inl ⟨_, rfl, _, _, rfl, rfl, n1000, p, _, _, rfl, rfl, e, small, _, _, _, rfl, g2.add e l _⟩⟩
        · rintro σ H2 ⟨z, y, o6, rfl, g2⟩
          exact ⟨_, _, _, _, rfl, g2.more (by omega)⟩
  · rintro σ H' ⟨o4, o5, o6, o7, rfl, g⟩
    obtain ⟨ms, e, l⟩ := g.lst
    exact ⟨_, rfl, q p ms H' g.same hp e (by omega)⟩
end
end MW

set_option Elab.async false
set_option linter.all false
set_option maxRecDepth 100000
set_option maxHeartbeats 2000000
/-! W12: what stands through the law; != of what was shown. -/
namespace MW
open PySem PySem.Spec PyProof.Rows L2
open GA (Tk TG CodeT)
section
variable {rs : Rules} {args : List (Key × V)}
theorem showN_er {M : Type} {W : Bool → M → Prop} {sm : M → Option Int → Res} {c : Bool} {left : Option Int} {nd : Nd M} (hs : ∀ b m left c n, W b m → sm m left = .er c n → SOk n) {b : Bool} (w : WfN W b nd) {n : Str} (h : showN sm rs args left nd = .er c n) : SOk n := by
  cases nd with
  | txt s => cases h
  | shw x =>
    cases e : valV args (.inr x) with
    | none => rw [shw_no e] at h; cases h; exact w
    | some v => rw [shw_at e] at h; cases h
  | num =>
    cases left with
    | none => cases h
    | some i => cases h
  | sel x cs o =>
    obtain ⟨w0, _, _, _, w1, w2⟩ := w
    cases e : valV args (.inr x) with
    | none => rw [sel_no e] at h; cases h; exact w0
    | some v =>
      cases v with
      | str wd => rw [sel_at e] at h; exact hs b _ _ _ _ (lk_all w1 w2) h
      | _ => simp only [showN, e] at h; cases h; exact w0
  | plu x off cs o =>
    obtain ⟨w0, _, _, _, _, _, w1, w2⟩ := w
    cases e : valV args (.inr x) with
    | none => rw [plu_no e] at h; cases h; exact w0
    | some v =>
      cases v with
      | int i => rw [plu_at e] at h; exact hs true _ _ _ _ (pick_all w1 w2) h
      | _ => simp only [showN, e] at h; cases h; exact w0
theorem showL_erAll {M : Type} {f : Nd M → Res} {c : Bool} : ∀ {nds : List (Nd M)} {acc n : Str}, (∀ nd ∈ nds, ∀ c n, f nd = .er c n → SOk n) → showL f acc nds = .er c n → SOk n
  | [], acc, n, _, h => by cases h
  | nd :: r, acc, n, hn, h => by
    cases e : f nd with
    | ok t => rw [showL_ok e] at h; exact showL_erAll (fun x hx => hn x (by simp [hx])) h
    | er b m =>
      rw [showL_er e] at h
      cases h
      exact hn nd (by simp) _ _ e
theorem showM_er : ∀ (d : Nat) (b : Bool) (m : Msg d) (left : Option Int) (c : Bool) (n : Str), Wf d b m → showM rs args d m left = .er c n → SOk n
  | 0, _, m, _, _, _, _, _ => nomatch m
  | d + 1, b, m, left, c, n, w, h => showL_erAll (fun nd hnd c n e => showN_er (fun b m left c n w h => showM_er d b m left c n w h) (w.2 nd hnd) e) h
end
theorem fr_tk {H0 H H' : Hp} (t : Tk H H') : Mn (fr H0 H) (fr H0 H') := fun c o e n => by
  obtain ⟨e1, e2⟩ := fr_some e
  rw [fr_at e1]
  exact t.ext c o e2 n
theorem TG.dw {x : Bx} {H H' : Hp} (hB : Box x H) (d : Dw x H H') : ∀ {n : Nat} {P : Addr}, TG n H P → TG n H' P
  | 0, _, ⟨ps, h1, h2⟩ => by
    obtain ⟨a, _, e⟩ := hB.box
    exact ⟨ps, d.kp _ _ (ne_of h1 e (by intro z; cases z)) h1, h2⟩
  | n + 1, _, ⟨ps, h1, h2, h3⟩ => by
    obtain ⟨a, _, e⟩ := hB.box
    refine ⟨ps, d.kp _ _ (ne_of h1 e (by intro z; cases z)) h1, h2, fun pos cv hc => ?_⟩
    obtain ⟨c1, P1, e1, e2, e3⟩ := h3 pos cv hc
    exact ⟨c1, P1, e1, d.kp _ _ (ne_of e2 e (by intro z; unfold CodeT at z; cases z)) e2, TG.dw hB d e3⟩
theorem Box.tk {x : Bx} {H H' : Hp} (hB : Box x H) (t : Tk H H') : Box x H' := by
  obtain ⟨a, h0, e⟩ := hB.box
  exact ⟨hB.ne, (Mn.tk t).lst hB.dig, hB.len, a, h0, (Mn.tk t).lst e⟩
/-- what stands: the box, the message, its rules, the language -/
structure Lw (x : Bx) (C PR PC : Addr) (Hb H : Hp) (mv : V) (m : Msg 3) (rv : V) (rs : Rules) (lv : V) : Prop where
  box : Box x H
  hb : Hb x.b ≠ none
  msg : IsM 3 (fr Hb H) mv m
  rules : IsRules (fr Hb H) rv rs
  lang : IsLang C (fr Hb H) lv rs
  t1 : TG 1 H PR
  t2 : TG 2 H PC
section
variable {x : Bx} {C PR PC : Addr} {Hb H H' : Hp} {mv : V} {m : Msg 3} {rv : V} {rs : Rules} {lv : V}
theorem Lw.dw (h : Lw x C PR PC Hb H mv m rv rs lv) (d : Dw x H H') : Lw x C PR PC Hb H' mv m rv rs lv := by
  have s := Mn.same (fr_dw d h.hb)
  exact ⟨h.box.dw d, h.hb, h.msg.mn s, IsRules.mn s h.rules, h.lang.mn s, TG.dw h.box d h.t1, TG.dw h.box d h.t2⟩
theorem Lw.tk (h : Lw x C PR PC Hb H mv m rv rs lv) (t : Tk H H') : Lw x C PR PC Hb H' mv m rv rs lv := by
  have s := fr_tk (H0 := Hb) t
  exact ⟨h.box.tk t, h.hb, h.msg.mn s, IsRules.mn s h.rules, h.lang.mn s, t.tg _ _ h.t1, t.tg _ _ h.t2⟩
theorem Lw.gm (h : Lw x C PR PC Hb H mv m rv rs lv) : IsM 3 H mv m := h.msg.mn (Mn.same fr_sub)
theorem Lw.gr (h : Lw x C PR PC Hb H mv m rv rs lv) : IsRules H rv rs := IsRules.mn (Mn.same fr_sub) h.rules
theorem Lw.gl (h : Lw x C PR PC Hb H mv m rv rs lv) : IsLang C H lv rs := h.lang.mn (Mn.same fr_sub)
theorem Lw.sh (h : Lw x C PR PC Hb H mv m rv rs lv) {dd : Addr} {args : List (Key × V)} (hd : H dd = some (.dK args)) (ha : AOk args) : Sh C PR PC H lv rs dd args none false := ⟨h.gl, hd, ha, (fun _ z => nomatch z), (fun z => nomatch z), h.t1, h.t2⟩
theorem Lw.ls (h : Lw x C PR PC Hb H mv m rv rs lv) {dd : Addr} {args : List (Key × V)} (hd : H dd = some (.dK args)) (ha : AOk args) : Ls H rv rs dd args none false := ⟨h.gr, hd, ha, (fun _ z => nomatch z), (fun z => nomatch z)⟩
end
theorem AOk.put {args : List (Key × V)} (h : AOk args) (k : Key) {v : V} (hv : AV v) : AOk (putK args k v) := fun j u e => by
  rw [valV_put] at e
  by_cases z : j = k
  · rw [if_pos z] at e
    cases e
    exact hv
  · rw [if_neg z] at e
    exact h j u e
/-- != of two flat things, or of two deep ones -/
theorem op_neX {X : Cx} (hu : X.A.units + 64 < cLine) : OpR X (compareOp .NotEq) (fun x y H Q => rNe x y H Q ∨ rNeD X.K x y H Q) := by
  intro pins s σ H x y v u Q I rx ry h
  rcases h with h | h
  · exact op_ne pins s σ H x y v u Q I rx ry h
  · exact op_neD hu pins s σ H x y v u Q I rx ry h
theorem eqv_same {d : PyData} (h : SeqAt.shaped d = true) : PyData.eqv d d = true := PySem.SeqAt.eqv_refl d (SeqAt.canLay_of_shaped h)
theorem erD_shaped {b : Bool} {n : Str} (h : SOk n) : SeqAt.shaped (.tuple [.str (erS b), .str n]) = true := by
  have e := s_ok h
  refine Bool.and_eq_true_iff.mpr ⟨?_, decide_eq_true (by simp [PyData.depth, PyData.depthAll])⟩
  simp only [PyData.canLay0, PyData.canLayAll0] at e ⊢
  rw [e]
  cases b <;> decide +kernel
end MW

set_option Elab.async false
set_option linter.all false
set_option maxRecDepth 100000
set_option maxHeartbeats 2000000
/-! W13: a drawn argument, stage by stage. -/
namespace MW
open PySem PySem.Spec PyProof.Rows L2
open GA (Tk TG CodeT)
section
variable {K : PySem.W.Frag} {x : Bx} {H : Hp} {D : Ends} {o0 o2 o3 o4 o5 o6 o9 : Option V} {nm : Str} {v : V}
abbrev dr (n : Int) : TE := tCall spDraw [] E0 (tCons (tVar 1) (tCons (tC (.int n)) tNil))
abbrev sg (x : Bx) (o0 o2 o3 o4 o5 o6 o9 : Option V) (nm : Str) (v : V) : L2.St := [o0, some (.ref x.b), o2, o3, o4, o5, o6, some (.str nm), some v, o9]
/-- a draw of a written list whose items are all P -/
theorem rd_pick {σ : L2.St} {n : Int} {xs : List V} {Pd : V → Prop} {ta : TA} {Q : VK} (h1 : σ[1]? = some (some (.ref x.b))) (hB : Box x H) (hn : 0 < n) (hl : n ≤ xs.length) (hx : ∀ v ∈ xs, Pd v)
    (ht : ∀ R : List V → Hp → Prop, R xs H → ta σ H R) (hs : xs.length ≤ sizeLine) (q : ∀ v H', Pd v → Dw x H H' → Q v H') : (tOp (rIxL K) (tLst ta) (dr n)) σ H Q := by
  refine ht _ ⟨hs, fun l hl' => ?_⟩
  have dn := Dw.new (o := .lst xs) hB hl'
  refine ⟨_, h1, x, n, rfl, hB.dw dn, hn, fun r H1 r0 r1 d1 => ?_⟩
  have hl1 := d1.lst (xs := xs) upd_same (fun z => hB.bat (by rw [← z]; exact hl'))
  obtain ⟨w, hw, hm⟩ := atI_lt (xs := xs) r0 (by omega)
  exact ⟨l, _, _, _, rfl, rfl, SqL.of hl1, hw, q w H1 (hx w hm) (dn.trans d1)⟩
theorem av_str {s : Str} (h : s.length ≤ 10) : AV (.str s) := .inr ⟨s, rfl, h⟩
theorem av_int {i : Int} (h : i.natAbs < 10 ^ 14) : AV (.int i) := .inl ⟨i, rfl, h⟩
/-- if draw(20) > 0: arguments[name] = value -/
theorem law_s4 {dd : Addr} {args : List (Key × V)} (hB : Box x H) (hd : H dd = some (.dK args)) (hl : args.length < sizeLine)
    (fin : ∀ H3, Dw x H H3 → D.nx (sg x o0 o2 o3 o4 o5 (some (.ref dd)) o9 nm v) H3 ∧ D.nx (sg x o0 o2 o3 o4 o5 (some (.ref dd)) o9 nm v) (upd H3 dd (.dK (putK args (.inr nm) v)))) :
    (tIfS (tTest (tOp (rI0 fun i j => .bl (decide (j < i))) (dr 20) (tC (.int 0)))) (sDPut (tVar 6) (tVar 7) (tVar 8)) tNext) D (sg x o0 o2 o3 o4 o5 (some (.ref dd)) o9 nm v) H := by
  refine ⟨_, rfl, x, 20, rfl, hB, by decide, fun r H1 r0 r1 d1 => ⟨_, _, rfl, rfl, _, rfl, ite2 (fun _ => ?_) (fun _ => (fin H1 d1).1)⟩⟩
  obtain ⟨a, _, e⟩ := hB.box
  have hd1 := d1.kp dd _ (ne_of hd e (by intro z; cases z)) hd
  exact ⟨_, rfl, _, rfl, _, rfl, dd, _, rfl, DPut.k (k := Sum.inr nm) hd1 hl, (fin H1 d1).2⟩
/-- if draw(20) == 0: value = [7, 'a'][draw(2)] -/
theorem law_s3 (hB : Box x H) (hv : AV v) (fin : ∀ v' H3, AV v' → Dw x H H3 → D.nx (sg x o0 o2 o3 o4 o5 o6 o9 nm v') H3) :
    (tIfS (tTest (tOp rEq (dr 20) (tC (.int 0)))) (tAsg (tOp (rIxL K) (tLst (tCons (tC (.int 7)) (tCons (tC (.str "a")) tNil))) (dr 2)) (gName 8)) tNext) D (sg x o0 o2 o3 o4 o5 o6 o9 nm v) H := by
  refine ⟨_, rfl, x, 20, rfl, hB, by decide, fun r H1 r0 r1 d1 => ⟨rfl, _, rfl, ite2 (fun _ => ?_) (fun _ => fin v H1 hv d1)⟩⟩
  have B1 := hB.dw d1
  refine rd_pick (x := x) (xs := [V.int 7, V.str "a"]) (Pd := AV) rfl B1 (by decide) (by decide) ?_ (fun R h => h) (by show 2 ≤ sizeLine; decide) (fun w H2 hw d2 => fin w H2 hw (d1.trans d2))
  intro w hw
  simp only [List.mem_cons, List.not_mem_nil, or_false] at hw
  rcases hw with rfl | rfl
  · exact av_int (by decide)
  · exact av_str (by decide +kernel)
/-- if name in ('n', 'count'): value = [draw(4), draw(30), _law_far(box)][draw(3)] -/
theorem law_s2 (hB : Box x H) (hv : AV v) (fin : ∀ v' H3, AV v' → Dw x H H3 → D.nx (sg x o0 o2 o3 o4 o5 o6 o9 nm v') H3) :
    (tIfS (tTest (tOp (rIn K false) (tVar 7) (tTup (tCons (tC (.str "n")) (tCons (tC (.str "count")) tNil)))))
      (tAsg (tOp (rIxL K) (tLst (tCons (dr 4) (tCons (dr 30) (tCons (tCall spFar [] E0 (tCons (tVar 1) tNil)) tNil)))) (dr 3)) (gName 8)) tNext) D (sg x o0 o2 o3 o4 o5 o6 o9 nm v) H := by
  refine ⟨_, rfl, (by show 2 ≤ sizeLine; decide), fun t ht => ?_⟩
  have dt := Dw.new (o := .tup [V.str "n", V.str "count"]) hB ht
  have B0 := hB.dw dt
  refine ⟨t, _, rfl, .inr (SqT.of upd_same), rfl, rfl, _, rfl, ite2 (fun _ => ?_) (fun _ => fin v _ hv dt)⟩
  refine ⟨_, rfl, x, 4, rfl, B0, by decide, fun r1 H1 l1 u1 d1 => ?_⟩
  have B1 := B0.dw d1
  refine ⟨_, rfl, x, 30, rfl, B1, by decide, fun r2 H2 l2 u2 d2 => ?_⟩
  have B2 := B1.dw d2
  refine ⟨_, rfl, x, rfl, B2, fun i H3 i0 i1 d3 => ?_⟩
  have B3 := B2.dw d3
  refine ⟨(by show 3 ≤ sizeLine; decide), fun l hl => ?_⟩
  have dn := Dw.new (o := .lst [V.int r1, V.int r2, V.int i]) B3 hl
  refine ⟨_, rfl, x, 3, rfl, B3.dw dn, by decide, fun r H4 r0 ru d4 => ?_⟩
  have hl1 := d4.lst (xs := [V.int r1, V.int r2, V.int i]) upd_same (fun z => B3.bat (by rw [← z]; exact hl))
  obtain ⟨w, hw, hm⟩ := atI_lt (xs := [V.int r1, V.int r2, V.int i]) r0 ru
  refine ⟨l, _, _, _, rfl, rfl, SqL.of hl1, hw, fin w H4 ?_ ((dt.trans d1).trans ((d2.trans d3).trans (dn.trans d4)))⟩
  simp only [List.mem_cons, List.not_mem_nil, or_false] at hm
  rcases hm with rfl | rfl | rfl
  · exact av_int (by omega)
  · exact av_int (by omega)
  · exact av_int (by omega)
/-- value = ['a', 'one', 'other', 'zz', ''][draw(5)] -/
theorem law_s1 {o8 : Option V} (hB : Box x H) (fin : ∀ v' H3, AV v' → Dw x H H3 → D.nx (sg x o0 o2 o3 o4 o5 o6 o9 nm v') H3) :
    (tAsg (tOp (rIxL K) (tLst (tCons (tC (.str "a")) (tCons (tC (.str "one")) (tCons (tC (.str "other")) (tCons (tC (.str "zz")) (tCons (tC (.str "")) tNil)))))) (dr 5)) (gName 8)) D [o0, some (.ref x.b), o2, o3, o4, o5, o6, some (.str nm), o8, o9] H := by
  refine rd_pick (x := x) (xs := [V.str "a", V.str "one", V.str "other", V.str "zz", V.str ""]) (Pd := AV) rfl hB (by decide) (by decide) ?_ (fun R h => h) (by show 5 ≤ sizeLine; decide) (fun w H2 hw d2 => fin w H2 hw d2)
  intro w hw
  simp only [List.mem_cons, List.not_mem_nil, or_false] at hw
  rcases hw with rfl | rfl | rfl | rfl | rfl <;> exact av_str (by decide +kernel)
end
end MW

set_option Elab.async false
set_option linter.all false
set_option maxRecDepth 100000
set_option maxHeartbeats 4000000
/-! W14: the law. -/
namespace MW
open PySem PySem.Spec PyProof.Rows L2
open GA (Tk TG CodeT)
abbrev sLaw : Stmt := top 44
def spLaw (K : PySem.W.Frag) (PR PC : Addr) : Sp := fun vs H Q _ => ∃ (a : Addr) (ns : List Int), vs = [.ref a] ∧ SqL K H a (ns.map V.int) ∧ TG 1 H PR ∧ TG 2 H PC ∧ ∀ H', Q (.bl true) H'
abbrev nLaw : List Str := ["_law_script", "_law_box", "_law_message_here", "_law_rules_here", "_law_language", "_law_turn", "_law_arguments", "_law_name", "_law_value", "_law_node"]
theorem scLaw : FnScope nLaw ["_law_script"] (defScope sLaw) := ⟨rfl, rfl, rfl, by decide +kernel, rfl, by decide +kernel, by decide +kernel⟩
/-- a list made by a def that leaves all else -/
theorem Box.made {H1 : Hp} {dg b : Addr} {ms : List Int} (hd : H1 dg = some (.lst (ms.map V.int))) (hl : ms.length ≤ 100000) (hb : H1 b = none) : Box ⟨b, dg, ms⟩ (upd H1 b (.lst [.ref dg, .int 0])) :=
  ⟨ne_of_none hd hb, by show upd H1 b _ dg = _; rw [upd_ne (ne_of_none hd hb)]; exact hd, hl, 0, Int.le_refl _, upd_same⟩
section
variable {P : Program} {w : World} {K : PySem.W.Frag} {mg : Str → Option Value} {base : Heap}
theorem ok_law {f C C1 C2 fL PR PC : Addr} {fd dL : FuncData} (F : Fun K "law" "law" sLaw f fd) (B : Bt mg) (T : Lc K mg C) (ML : Mk K C fL) (GL : FnOk P w K mg base CX0 1 fL dL ["self", "rules"] (spLang C)) (bL : Binds K dL ["self", "rules"] []) (mL : mg "Language" = some (.ref C))
    (GDg : Dn P w K mg base CX0 "_law_digits" pDigits 2 (spDigits K)) (GD : Dn P w K mg base CX0 "_law_draw" pDraw 1 spDraw) (GM : Dn P w K mg base CX0 "_law_message" pMk 7 (spMk 2)) (GRu : Dn P w K mg base CX0 "_law_rules" ["_law_box"] 4 spRulesD) (GF : Dn P w K mg base CX0 "_law_far" ["_law_box"] 2 spFar)
    (GT : Dn P w K mg base CX0 "_law_told" pTold 16 (spTold C PR PC)) (GS : Dn P w K mg base CX0 "_law_show" pLShow 6 (spLShow 3)) (GCn : Dn P w K mg base CX0 "counted" ["node", "language", "number"] 8 (spCnt C PR PC)) (GCh : Dn P w K mg base CX0 "_law_chosen" pChosen 3 (spChosen 2))
    (GSh : Dn P w K mg base (L2.CX P w) "shown" nShown 15 (spShown C C1 C2 PR PC)) : FnOk P w K mg base CX0 17 f fd ["_law_script"] (spLaw K PR PC) := by
  refine F.ok scLaw (fun vs H Q E h => ?_) (fun cdv A outer s H vs Q E hr h => ?_)
  · obtain ⟨a, ns, rfl, _⟩ := h
    rfl
  obtain ⟨a, ns, rfl, hS, t1, t2, q⟩ := h
  have nd := scLaw.nd
  have hu := hu_of hr
  have hr1 := hr.mono (j := 1) (by decide)
  have hr2 := hr.mono (j := 2) (by decide)
  have hr3 := hr.mono (j := 3) (by decide)
  have hr4 := hr.mono (j := 4) (by decide)
  have hr6 := hr.mono (j := 6) (by decide)
  have hr7 := hr.mono (j := 7) (by decide)
  have hr8 := hr.mono (j := 8) (by decide)
  have hr15 := hr.mono (j := 15) (by decide)
  refine ⟨_, pss_cons (ps_set (i := 1) nd rfl (Or.inl rfl) (pe_lst (pa_cons (pe_dn GDg hr2 rfl (pa_cons (pv 0) (pa_cons pe_int (pa_cons pe_int pa_nil)))) (pa_cons pe_int pa_nil))))
    (pss_cons (ps_set (i := 2) nd rfl (Or.inl rfl) (pe_dn GM hr7 rfl (pa_cons (pv 1) (pa_cons pe_int (pa_cons pe_bl pa_nil)))))
    (pss_cons (ps_set (i := 3) nd rfl (Or.inl rfl) (pe_dn GRu hr4 rfl (pa_cons (pv 1) pa_nil)))
    (pss_cons (ps_set (i := 4) nd rfl (Or.inl rfl) (pe_make ML GL hr2 rfl mL bL .nil pass0 (pa_cons (pv 3) pa_nil)))
    (pss_cons (ps_for PassesOwn.never rfl (pi_range1 rfl B.range (pa_cons pe_int pa_nil)) (pg_name (i := 5) nd rfl (Or.inl rfl))
      (pss_cons (ps_set (i := 6) nd rfl (Or.inl rfl) pe_dnewK)
      (pss_cons (ps_for PassesOwn.never rfl (pi_list (pe_lst (pa_cons pe_str (pa_cons pe_str (pa_cons pe_str (pa_cons pe_str (pa_cons pe_str pa_nil))))))) (pg_name (i := 7) nd rfl (Or.inl rfl))
        (pss_cons (ps_set (i := 8) nd rfl (Or.inl rfl) (pe_ix ix_list (pe_lst (pa_cons pe_str (pa_cons pe_str (pa_cons pe_str (pa_cons pe_str (pa_cons pe_str pa_nil)))))) (pe_dn GD hr1 rfl (pa_cons (pv 1) (pa_cons pe_int pa_nil))) (fun _ _ => rfl)))
        (pss_cons (ps_if (pt_cmpR op_in_seq (pv 7) (pe_tup (pa_cons pe_str (pa_cons pe_str pa_nil))) (by rfl))
          (pss_one (ps_set (i := 8) nd rfl (Or.inl rfl) (pe_ix ix_list (pe_lst (pa_cons (pe_dn GD hr1 rfl (pa_cons (pv 1) (pa_cons pe_int pa_nil))) (pa_cons (pe_dn GD hr1 rfl (pa_cons (pv 1) (pa_cons pe_int pa_nil))) (pa_cons (pe_dn GF hr2 rfl (pa_cons (pv 1) pa_nil)) pa_nil)))) (pe_dn GD hr1 rfl (pa_cons (pv 1) (pa_cons pe_int pa_nil))) (fun _ _ => rfl)))) pss_nil)
        (pss_cons (ps_if (pt_cmpR op_eq (pe_dn GD hr1 rfl (pa_cons (pv 1) (pa_cons pe_int pa_nil))) pe_int (nomark _))
          (pss_one (ps_set (i := 8) nd rfl (Or.inl rfl) (pe_ix ix_list (pe_lst (pa_cons pe_int (pa_cons pe_str pa_nil))) (pe_dn GD hr1 rfl (pa_cons (pv 1) (pa_cons pe_int pa_nil))) (fun _ _ => rfl)))) pss_nil)
        (pss_one (ps_if (pt_cmpR op_gt (pe_dn GD hr1 rfl (pa_cons (pv 1) (pa_cons pe_int pa_nil))) pe_int (nomark _)) (pss_one (ps_dput hu (pv 6) (pv 7) (pv 8) rfl)) pss_nil))))))
      (pss_one (ps_if (pt_cmpR (op_neX hr.units) (pe_dn GT hr rfl (pa_cons (pv 2) (pa_cons (pv 4) (pa_cons (pv 6) pa_nil)))) (pe_dn GS hr6 rfl (pa_cons (pv 2) (pa_cons (pv 3) (pa_cons (pv 6) (pa_cons pe_non pa_nil))))) (nomark _)) (pss_one (ps_ret pe_bl)) pss_nil)))))
    (pss_cons (ps_for PassesOwn.never rfl (pi_list (pv 2)) (pg_name (i := 9) nd rfl (Or.inl rfl))
      (pss_one (ps_if (PW.pt (pw_and (pt_cmpR op_eq (pe_ix ix_tup (pv 9) pe_int (fun _ _ => rfl)) pe_str (nomark _)) (pw_and1 (pt_cmpR (op_neD hr.units) (pe_dn GCn hr8 rfl (pa_cons (pv 9) (pa_cons (pv 4) (pa_cons pe_int pa_nil)))) (pe_dn GCh hr3 rfl (pa_cons (pv 9) (pa_cons (pv 3) (pa_cons pe_int pa_nil)))) (nomark _)))))
        (pss_one (ps_ret pe_bl)) pss_nil)))
    (pss_one (ps_ret (pe_cmpR op_eq (pe_dnS GSh hr15 rfl (fun σ => passAt takes0 σ) (pa_cons (pe_lst pa_nil) (pa_cons (pv 4) (pa_cons pe_dnewK pa_nil)))) pe_str (nomark _))))))))), ?_⟩
  -- the box
  refine ⟨_, rfl, a, ns, rfl, hS, fun dg ms H1 s1 _ hdg hml => ⟨(by show 2 ≤ sizeLine; decide), fun b hb => ?_⟩⟩
  have hB0 := Box.made hdg hml hb
  have s2 : Same H (upd H1 b (.lst [.ref dg, .int 0])) := s1.trans fun c o e => by rw [upd_ne (ne_of_none e hb)]; exact e
  have t1' := (Tk.of s2).tg _ _ t1
  have t2' := (Tk.of s2).tg _ _ t2
  generalize hHb : upd H1 b (.lst [.ref dg, .int 0]) = Hb at hB0 t1' t2'
  obtain ⟨x, ex⟩ : ∃ x : Bx, x = ⟨b, dg, ms⟩ := ⟨_, rfl⟩
  rw [← ex] at hB0
  have exb : b = x.b := by rw [ex]
  rw [exb]
  -- the message, the rules
  refine ⟨_, rfl, x, 2, false, rfl, rfl, hB0, fun mv m H2 d2 hm hw => ?_⟩
  have B2 := hB0.dw d2
  refine ⟨_, rfl, x, rfl, B2, fun p acc rs H3 d3 hp pr => ?_⟩
  have B3 := B2.dw d3
  have hp3 := (fr_some hp).2
  refine ⟨_, rfl, fun xl dx nx ndx ne => ⟨xl, dx, p, acc, rfl, upd_same, ?_, fun l hl => ⟨rfl, ?_⟩⟩⟩
  · rw [upd_ne (ne_of_none hp3 nx), upd_ne (ne_of_none hp3 ndx)]
    exact hp3
  have nlx : l ≠ xl := fun z => by rw [z, upd_same] at hl; cases hl
  have hl3 : H3 l = none := by
    rw [upd_ne nlx] at hl
    by_cases z : l = dx
    · rw [z, upd_same] at hl
      cases hl
    · rw [upd_ne z] at hl
      exact hl
  have d4 : Dw x H3 (upd (upd (upd (upd H3 dx (.own xl)) xl (.ins C dx [])) l (.lst acc)) xl (.ins C dx [("rules", .ref l)])) := by
    have old : ∀ c o, H3 c = some o → (upd (upd (upd (upd H3 dx (.own xl)) xl (.ins C dx [])) l (.lst acc)) xl (.ins C dx [("rules", .ref l)])) c = some o := fun c o e => by
      rw [upd_ne (ne_of_none e nx), upd_ne (ne_of_none e hl3), upd_ne (ne_of_none e nx), upd_ne (ne_of_none e ndx)]
      exact e
    obtain ⟨at_, a0, ea⟩ := B3.box
    exact ⟨fun c o _ e => old c o e, at_, a0, old _ _ ea⟩
  have hl4 : (upd (upd (upd (upd H3 dx (.own xl)) xl (.ins C dx [])) l (.lst acc)) xl (.ins C dx [("rules", .ref l)])) l = some (.lst acc) := by rw [upd_ne nlx, upd_same]
  have hx4 : (upd (upd (upd (upd H3 dx (.own xl)) xl (.ins C dx [])) l (.lst acc)) xl (.ins C dx [("rules", .ref l)])) xl = some (.ins C dx [("rules", .ref l)]) := upd_same
  generalize hH4 : (upd (upd (upd (upd H3 dx (.own xl)) xl (.ins C dx [])) l (.lst acc)) xl (.ins C dx [("rules", .ref l)])) = H4 at d4 hl4 hx4
  have fb2 : ∀ c, H2 c = none → Hb c = none := fun c e => d2.free e
  have fb3 : ∀ c, H3 c = none → Hb c = none := fun c e => fb2 c (d3.free e)
  have s34 : Same (fr Hb H3) (fr Hb H4) := fr_dw d4 hB0.bat
  have s23 : Same (fr Hb H2) (fr Hb H3) := fr_dw d3 hB0.bat
  have sb : Same (fr H2 H3) (fr Hb H3) := fr_base fb2
  have prb : Paired (IsRule (fr Hb H4)) acc rs := Paired.mapP pr fun _ _ z => (z.mn (Mn.same sb)).mn (Mn.same s34)
  have L4 : Lw x C PR PC Hb H4 mv m (.ref p) rs (.ref xl) := by
    refine ⟨B3.dw d4, hB0.bat, (hm.mn (Mn.same s23)).mn (Mn.same s34), ⟨p, acc, rfl, s34 _ _ (sb _ _ hp), prb⟩, ⟨xl, dx, .ref l, rfl, ?_, l, acc, rfl, ?_, prb⟩, TG.dw B3 d4 (TG.dw B2 d3 (TG.dw hB0 d2 t1')), TG.dw B3 d4 (TG.dw B2 d3 (TG.dw hB0 d2 t2'))⟩
    · rw [fr_at (fb3 _ nx)]
      exact hx4
    · rw [fr_at (fb3 _ hl3)]
      exact hl4
  refine ⟨5, rfl, by decide, by decide, for_range (n := 5) (fun i σ H5 => ∃ o5 o6 o7 o8 : Option V, σ = [some (.ref a), some (.ref x.b), some mv, some (.ref p), some (.ref xl), o5, o6, o7, o8, none] ∧ Lw x C PR PC Hb H5 mv m (.ref p) rs (.ref xl))
    ⟨none, none, none, none, rfl, L4⟩ ?_ ?_⟩
  · -- a turn
    rintro i σ H5 hi ⟨o5, o6, o7, o8, rfl, L5⟩
    refine fun dd hdd => ?_
    have ndd : dd ≠ x.b := fun z => L5.box.bat (by rw [← z]; exact hdd)
    have e6 := Dw.new (o := .dK []) L5.box hdd
    refine ⟨(by show 5 ≤ sizeLine; decide), fun l5 hl5 => ⟨l5, rfl, ⟨_, SqL.of upd_same⟩, ?_⟩⟩
    have nl5 : l5 ≠ x.b := fun z => e6.bat (by rw [← z]; exact hl5)
    have ndl : dd ≠ l5 := ne_of_none upd_same hl5
    have e7 := e6.trans (Dw.new (o := .lst [V.str "n", V.str "count", V.str "w", V.str "kind", V.str "who"]) (L5.box.dw e6) hl5)
    refine for_list (K := K) (a := l5) (xs := [V.str "n", V.str "count", V.str "w", V.str "kind", V.str "who"]) (fun j σ H6 => ∃ (o5 o7 o8 : Option V) (args : List (Key × V)), σ = [some (.ref a), some (.ref x.b), some mv, some (.ref p), some (.ref xl), o5, some (.ref dd), o7, o8, none] ∧ Dw x H5 H6 ∧ H6 l5 = some (.lst [V.str "n", V.str "count", V.str "w", V.str "kind", V.str "who"]) ∧ H6 dd = some (.dK args) ∧ AOk args ∧ args.length ≤ j)
      ⟨_, _, _, [], rfl, e7, upd_same, by rw [upd_ne ndl, upd_same], (fun k v e => by cases e), Nat.le_refl _⟩ (fun j σ H6 _ ⟨_, _, _, _, _, _, e, _⟩ => SqL.of e) ?_ ?_
    · rintro j y σ H6 hy ⟨o5, o7, o8, args, rfl, d6, h5, hd6, ha, hlen⟩
      obtain ⟨nm, rfl⟩ : ∃ nm, y = V.str nm := by
        have hm := List.mem_of_getElem? hy
        simp only [List.mem_cons, List.not_mem_nil, or_false] at hm
        rcases hm with rfl | rfl | rfl | rfl | rfl <;> exact ⟨_, rfl⟩
      have hj : j < 5 := (List.getElem?_eq_some_iff.mp hy).1
      have B6 := L5.box.dw d6
      refine law_s1 B6 fun v1 H7 a1 d7 => ?_
      have B7 := B6.dw d7
      refine law_s2 B7 a1 fun v2 H8 a2 d8 => ?_
      have B8 := B7.dw d8
      refine law_s3 B8 a2 fun v3 H9 a3 d9 => ?_
      have B9 := B8.dw d9
      have d69 := (d7.trans d8).trans d9
      refine law_s4 (dd := dd) (args := args) B9 (d69.kp dd _ ndd hd6) (small1000 (by omega)) fun H10 d10 => ?_
      have dA := (d6.trans d69).trans d10
      have lA := (d69.trans d10).lst h5 nl5
      have hA := (d69.trans d10).kp dd _ ndd hd6
      refine ⟨⟨_, _, _, args, rfl, dA, lA, hA, ha, Nat.le_succ_of_le hlen⟩, ⟨_, _, _, putK args (.inr nm) v3, rfl, Dw.wr dA L5.box.bat hdd, ?_, upd_same, ha.put _ a3, ?_⟩⟩
      · rw [upd_ne ndl.symm]
        exact lA
      · have := length_putK args (Sum.inr nm) v3
        omega
    · rintro σ H6 ⟨o5, o7, o8, args, rfl, d6, h5, hd6, ha, hlen⟩
      have L6 := L5.dw d6
      -- told and shown
      refine ⟨_, rfl, _, rfl, _, rfl, mv, m, .ref xl, rs, dd, args, rfl, L6.gm, L6.sh hd6 ha, hw, ?_⟩
      refine ⟨fun s1 es H7 t7 => ?_, fun b1 n1 es p7 H7 t7 hp7 => ?_⟩
      · have L7 := L6.tk t7
        refine ⟨_, rfl, _, rfl, _, rfl, Nat.le_refl _, mv, m, .ref p, rs, dd, args, none, false, rfl, L7.gm, L7.ls ((Mn.tk t7).dK hd6) ha, hw, fun s2 es2 H8 t8 => ?_, fun b2 n2 es2 => by rw [es] at es2; cases es2⟩
        rw [es] at es2
        cases es2
        refine .inl ⟨rfl, _, rfl, ite2 (fun z => ?_) (fun _ => ⟨_, _, _, _, rfl, L7.tk t8⟩)⟩
        rw [decide_eq_true rfl] at z
        cases z
      · have L7 := L6.tk t7
        refine ⟨_, rfl, _, rfl, _, rfl, Nat.le_refl _, mv, m, .ref p, rs, dd, args, none, false, rfl, L7.gm, L7.ls ((Mn.tk t7).dK hd6) ha, hw, fun s2 es2 => (by rw [es] at es2; cases es2), fun b2 n2 es2 p8 H8 t8 hp8 => ?_⟩
        rw [es] at es2
        cases es2
        have sh := erD_shaped (b := b1) (showM_er 3 false m none b1 n1 hw es)
        refine .inr ⟨.tuple [.str (erS b1), .str n1], .tuple [.str (erS b1), .str n1], .tup (SqT.of ((Mn.tk t8).tup hp7)) (.cons (.str _) (.cons (.str _) .nil)), .tup (SqT.of hp8) (.cons (.str _) (.cons (.str _) .nil)), sh, sh, _, rfl, ?_⟩
        rw [eqv_same sh]
        exact ite2 (fun z => Bool.noConfusion z) (fun _ => ⟨_, _, _, _, rfl, L7.tk t8⟩)
  · -- the choices
    rintro σ H5 ⟨o5, o6, o7, o8, rfl, L5⟩
    obtain ⟨ml, mvs, rfl, hml5, mpr⟩ := L5.gm
    refine ⟨_, rfl, ml, rfl, ⟨_, SqL.of hml5⟩, for_list (K := K) (a := ml) (xs := mvs) (fun j σ H6 => ∃ o9 : Option V, σ = [some (.ref a), some (.ref x.b), some (.ref ml), some (.ref p), some (.ref xl), o5, o6, o7, o8, o9] ∧ Tk H5 H6 ∧ Lw x C PR PC Hb H6 (.ref ml) m (.ref p) rs (.ref xl))
      ⟨none, rfl, Tk.refl _, L5⟩ (fun j σ H6 _ ⟨_, _, t, _⟩ => SqL.of ((Mn.tk t).lst hml5)) ?_ ?_⟩
    · rintro j y σ H6 hy ⟨o9, rfl, t6, L6⟩
      obtain ⟨nd', hnd, rnd⟩ := Paired.get (show Paired (IsNd (IsM 2 H5) H5) mvs m.nds from mpr) hy
      have rnd6 := rnd.mn (R' := IsM 2 H6) (Mn.tk t6) (fun _ _ z => z.mn (Mn.tk t6))
      have hwn := hw.2 nd' (List.mem_of_getElem? hnd)
      obtain ⟨q1, tg, rest, rfl, hq1⟩ := tag_of rnd6
      refine ⟨_, rfl, q1, _, _, .str tg, rfl, rfl, SqT.of hq1, atI_nat (j := 0) rfl, rfl, _, rfl, ite2 (fun c => ?_) (fun _ => ite2 (fun z => Bool.noConfusion z) (fun _ => ⟨_, rfl, t6, L6⟩))⟩
      have etg : tg = "plural" := V.str.inj (of_decide_eq_true c)
      cases nd' with
      | plu n off cs o =>
        obtain ⟨p2, c2, kvs, wv, ep, hp2, ⟨ps, hc, p1, pp⟩, ho⟩ := rnd6
        cases ep
        have hkl : kvs.length ≤ 10 := by rw [Paired.len pp]; exact hwn.2.2.2.1
        refine ⟨_, rfl, _, rfl, q1, c2, .ref xl, kvs, n, off, 3, ps, wv, rs, rfl, hp2, L6.gl, L6.t1, L6.t2, hc, p1, nodup_cs pp hwn.2.2.2.2.1, fun H7 t7 => ?_⟩
        have L7 := L6.tk t7
        have pp7 : Paired (fun kv km => kv.1 = km.1 ∧ IsM 2 H7 kv.2 km.2) kvs cs := Paired.mapP pp fun _ _ z => ⟨z.1, z.2.mn (Mn.tk t7)⟩
        refine ⟨_, rfl, _, rfl, by decide, q1, c2, .ref p, wv, kvs, n, ps, (Mn.tk t7).lst hc, Paired.mapP p1 fun _ _ z => (Mn.tk t7).tup z, hkl, .inr ⟨3, off, rs, cs, rfl, (Mn.tk t7).tup hp2, L7.gr, pp7, hwn.2.2.2.2.2.2.1, fun H8 t8 => ?_⟩⟩
        have hm8 := ms_dp (K := K) ((pick_rel (i := 3) (c := catOf rs (3 - off)) pp7 (ho.mn (Mn.tk t7))).mn (Mn.tk t8))
        have sh := msD_shaped (d := 2) (by decide) (pick_all (W := Wf 2 true) (i := 3) (c := catOf rs (3 - off)) hwn.2.2.2.2.2.2.1 hwn.2.2.2.2.2.2.2)
        refine ⟨_, _, hm8, hm8, sh, sh, _, rfl, ?_⟩
        rw [eqv_same sh]
        exact ite2 (fun z => Bool.noConfusion z) (fun _ => ⟨_, rfl, t6.trans (t7.trans t8), L7.tk t8⟩)
      | txt s =>
        obtain ⟨p2, ep, hp2⟩ := rnd6
        cases ep
        rw [hp2] at hq1
        cases hq1
        exact absurd etg (by decide +kernel)
      | shw s =>
        obtain ⟨p2, ep, hp2⟩ := rnd6
        cases ep
        rw [hp2] at hq1
        cases hq1
        exact absurd etg (by decide +kernel)
      | num =>
        obtain ⟨p2, ep, hp2⟩ := rnd6
        cases ep
        rw [hp2] at hq1
        cases hq1
        exact absurd etg (by decide +kernel)
      | sel n cs o =>
        obtain ⟨p2, c2, kvs, wv, ep, hp2, _⟩ := rnd6
        cases ep
        rw [hp2] at hq1
        cases hq1
        exact absurd etg (by decide +kernel)
    · rintro σ H6 ⟨o9, rfl, t6, L6⟩
      refine ⟨(by show 0 ≤ sizeLine; decide), fun l0 hl0 => ⟨_, rfl, fun d0 hd0 => ?_⟩⟩
      have dn := (Dw.new (o := .lst []) L6.box hl0).trans (Dw.new (o := .dK []) (L6.box.dw (Dw.new (o := .lst []) L6.box hl0)) hd0)
      have L7 := L6.dw dn
      refine ⟨.ref l0, [], .ref xl, rs, d0, [], rfl, ⟨l0, [], rfl, ?_, .nil⟩, L7.sh upd_same (fun k v e => by cases e), ⟨Nat.zero_le _, fun _ z => absurd z (by simp)⟩, fun s es H8 t8 => ?_, fun n es => ?_, fun n es => ?_⟩
      · rw [upd_ne (ne_of_none upd_same hd0), upd_same]
      · have e : s = Str.empty := by
          have es' : Res.ok Str.empty = Res.ok s := es
          cases es'
          rfl
        subst e
        refine ⟨rfl, ?_⟩
        have ed : decide (V.str Str.empty = V.str (Str.ofString "")) = true := by decide +kernel
        show Q (V.bl (decide (V.str Str.empty = V.str (Str.ofString "")))) H8
        rw [ed]
        exact q H8
      · have es' : Res.ok Str.empty = Res.er false n := es
        cases es'
      · have es' : Res.ok Str.empty = Res.er true n := es
        cases es'
end
end MW

set_option Elab.async false
set_option linter.all false
set_option maxRecDepth 100000
set_option maxHeartbeats 8000000
/-! W15: what the top has written; the end. -/
namespace MW
open PySem PySem.Spec PyProof.Rows L2
open GA (Tk TG CodeT)
theorem tabIn_of {K : PySem.W.Frag} {x : Str} {f c P : Addr} {oc tc : Value} {od td : Option Addr} {fd : FuncData} {sl tsl : Array (Option Value)} {vs : Array Value} (a : PySem.W.nsIn K mainGlobals x = some (some (.ref f))) (l : K.lookup f = some ⟨oc, od, .func fd, sl⟩) (hc : fd.code = .ref c)
    (lc : K.lookup c = some ⟨tc, td, .fields vs, tsl⟩) (hp : vs[11]? = some (.ref P)) : PySem.W.tabIn K x = some (c, P) := by
  unfold PySem.W.tabIn
  simp only [a, l, hc, lc, hp]
/-! ### the errors' texts -/
section
open PySem.W PySem.Calls PySem.HandSPX PySem.ErrX
variable {P : Program} {w : World} {a b : Str} {p1 p2 p3 p4 jp : Pos}
theorem js2 (ha : a.length ≤ 100 := by decide +kernel) : JsOk P w [.Constant (.str a) 0 p1, .FormattedValue (.Name "name" p2) (-1) none p3] jp := by
  intro A E env s m n tk Q hsc hns hm hn hq
  refine wpAny_JoinedStr ?_
  show wpAny _ _ (eval (.Constant (.str a) 0 p1) env) _ _ _
  refine Constant_str ⟨a, _, rfl, ?_, ?_⟩
  · rw [empty_append]; exact sizes _ (by omega)
  show wpAny _ _ (eval (.FormattedValue (.Name "name" p2) (-1) none p3) env) _ _ _
  refine wpAny_FormattedValue_plain (ESX.ldL (env := env) (v := .str n tk) hns hm ?_ (by rw [hsc]; rfl) (by unfold Env.kindOf; rw [hsc]; rfl))
  refine wpAny_formatField_str ⟨n, tk, rfl, ?_, ?_⟩ ⟨n, _, rfl, ?_, ?_⟩ (sizes _ (by omega))
  · rw [len_app, empty_append]; exact sizes _ (by omega)
  · refine ⟨by rw [len_app, empty_append]; exact sizes _ (by omega), hq _ _ _⟩
  · rw [len_app, empty_append]; exact sizes _ (by omega)
  · refine ⟨by rw [len_app, empty_append]; exact sizes _ (by omega), hq _ _ _⟩
theorem js3 (ha : a.length ≤ 100 := by decide +kernel) (hb : b.length ≤ 100 := by decide +kernel) : JsOk P w [.Constant (.str a) 0 p1, .FormattedValue (.Name "name" p2) (-1) none p3, .Constant (.str b) 0 p4] jp := by
  intro A E env s m n tk Q hsc hns hm hn hq
  refine wpAny_JoinedStr ?_
  show wpAny _ _ (eval (.Constant (.str a) 0 p1) env) _ _ _
  refine Constant_str ⟨a, _, rfl, ?_, ?_⟩
  · rw [empty_append]; exact sizes _ (by omega)
  show wpAny _ _ (eval (.FormattedValue (.Name "name" p2) (-1) none p3) env) _ _ _
  refine wpAny_FormattedValue_plain (ESX.ldL (env := env) (v := .str n tk) hns hm ?_ (by rw [hsc]; rfl) (by unfold Env.kindOf; rw [hsc]; rfl))
  have fin : ∀ s' : Shared, (∀ out tk' tks, Q (.str out tk') { s' with toks := tks }) → Joins (model P w) A E (evalEach [.Constant (.str b) 0 p4] env) (Str.empty ++ a ++ n) (fun out s₁ => out.length ≤ sizeLine ∧ Q (.str out s₁.toks) { s₁ with toks := s₁.toks + 1 }) s' := fun s' hq' => by
    show wpAny _ _ (eval (.Constant (.str b) 0 p4) env) _ _ _
    refine Constant_str ⟨b, _, rfl, ?_, ?_, ?_⟩
    · rw [len_app, len_app, empty_append]; exact sizes _ (by omega)
    · rw [len_app, len_app, empty_append]; exact sizes _ (by omega)
    · exact hq' _ _ _
  refine wpAny_formatField_str ⟨n, tk, rfl, ?_, fin _ fun _ _ _ => hq _ _ _⟩ ⟨n, _, rfl, ?_, fin _ fun _ _ _ => hq _ _ _⟩ (sizes _ (by omega))
  · rw [len_app, empty_append]; exact sizes _ (by omega)
  · rw [len_app, empty_append]; exact sizes _ (by omega)
end
theorem all_mk {l : PySem.W.OpenLaw} {w : World} {K : PySem.W.Frag} {h : Heap} {mg : Str → Option Value} {fa C fL C0 C1 C2 g1 g2 cda1 cda2 cc1 cc2 c3 P3 c4 P4 f1 f2 f3 f4 f5 f6 f7 f8 f9 f10 f11 f12 f13 f14 f15 f16 f17 f18 f19 f20 f21 f22 f23 f24 f25 f26 f27 f28 f29 : Addr}
    {od1 od2 od3 od4 od5 od6 od7 od8 od9 od10 od11 od12 od13 od14 od15 od16 od17 od18 od19 od20 od21 od22 od23 od24 od25 od26 od27 od28 od29 an1 an2 an3 an4 an5 an6 an7 an8 an9 an10 an11 an12 an13 an14 an15 an16 an17 an18 an19 an20 an21 an22 an23 an24 an25 an26 an27 an28 an29 odL anL odg1 odg2 ang1 ang2 cld1 cld2 dld1 dld2 dd1 dd2 dd0 td3 td4 : Option Addr}
    {sl1 sl2 sl3 sl4 sl5 sl6 sl7 sl8 sl9 sl10 sl11 sl12 sl13 sl14 sl15 sl16 sl17 sl18 sl19 sl20 sl21 sl22 sl23 sl24 sl25 sl26 sl27 sl28 sl29 slL slg1 slg2 csl1 csl2 dsl1 dsl2 tsl3 tsl4 : Array (Option Value)}
    {oc1 oc2 oc3 oc4 oc5 oc6 oc7 oc8 oc9 oc10 oc11 oc12 oc13 oc14 oc15 oc16 oc17 oc18 oc19 oc20 oc21 oc22 oc23 oc24 oc25 oc26 oc27 oc28 oc29 kV1 kV2 kV3 kV4 kV5 kV6 kV7 kV8 kV9 kV10 kV11 kV12 kV13 kV14 kV15 kV16 kV17 kV18 kV19 kV20 kV21 kV22 kV23 kV24 kV25 kV26 kV27 kV28 kV29 dc1 dc2 dc3 dc4 dc5 dc6 dc7 dc8 dc9 dc10 dc11 dc12 dc13 dc14 dc15 dc16 dc17 dc18 dc19 dc20 dc21 dc22 dc23 dc24 dc25 dc26 dc27 dc28 dc29 pm1 pm2 pm3 pm4 pm5 pm6 pm7 pm8 pm9 pm10 pm11 pm12 pm13 pm14 pm15 pm16 pm17 pm18 pm19 pm20 pm21 pm22 pm23 pm24 pm25 pm26 pm27 pm28 pm29 cd1 cd2 cd5 cd6 cd7 cd8 cd9 cd10 cd11 cd12 cd13 cd14 cd15 cd16 cd17 cd18 cd19 cd20 cd21 cd22 cd23 cd24 cd25 cd26 cd27 cd28 cd29 ct1 ct2 ct3 ct4 ct5 ct6 ct7 ct8 ct9 ct10 ct11 ct12 ct13 ct14 ct15 ct16 ct17 ct18 ct19 ct20 ct21 ct22 ct23 ct24 ct25 ct26 ct27 ct28 ct29 ocL kVL dcL pmL cdL ctL ocg1 ocg2 dcg1 dcg2 pmg1 pmg2 ctg1 ctg2 ccl1 ccl2 dcl1 dcl2 tc3 tc4 : Value}
    {dvs1 dvs2 tvs3 tvs4 : Array Value} {file1 file2 nm1 nm2 qn1 qn2 nm0 qn0 : Str} {tf1 tf2 tkTEXT tkSHOW tkNUMBER tkSELECT tkOTHER : Tok} {N1 N2 N0 : Addr} {bs1 bs2 sub1 sub2 bs0 sub0 : List Value} {sn1 sn2 sn0 : List Str} {ab1 ab2 ab0 : Bool} {col1 col2 col0 : Option Bool}
    {m01 m11 m21 m31 m51 m02 m12 m22 m32 m52 m00 m10 m20 m30 m50 : Option Value}
    (X : K.In h) (G : h.Ns mainGlobals mg) (hfa : mg "law" = some (.ref fa))
    (a1 : PySem.W.nsIn K mainGlobals "cases_of" = some (some (.ref f1)))
    (l1 : K.lookup f1 = some ⟨oc1, od1, .func (PySem.W.fnOf "cases_of" "cases_of" (defArgs sCases) (defBody sCases) (defScope sCases) .none kV1 dc1 pm1 an1 cd1 ct1), sl1⟩)
    (c_1 : PySem.W.codeIn K cd1 "cases_of" = true)
    (k1 : PySem.W.keepIn K (.ref f1) = true)
    (a2 : PySem.W.nsIn K mainGlobals "other_of" = some (some (.ref f2)))
    (l2 : K.lookup f2 = some ⟨oc2, od2, .func (PySem.W.fnOf "other_of" "other_of" (defArgs sOther) (defBody sOther) (defScope sOther) .none kV2 dc2 pm2 an2 cd2 ct2), sl2⟩)
    (c_2 : PySem.W.codeIn K cd2 "other_of" = true)
    (k2 : PySem.W.keepIn K (.ref f2) = true)
    (a3 : PySem.W.nsIn K mainGlobals "relation_holds" = some (some (.ref f3)))
    (l3 : K.lookup f3 = some ⟨oc3, od3, .func (PySem.W.fnOf "relation_holds" "relation_holds" (defArgs sRel) (defBody sRel) (defScope sRel) .none kV3 dc3 pm3 an3 (.ref c3) ct3), sl3⟩)
    (c_3 : PySem.W.codeIn K (.ref c3) "relation_holds" = true)
    (k3 : PySem.W.keepIn K (.ref f3) = true)
    (a4 : PySem.W.nsIn K mainGlobals "condition_holds" = some (some (.ref f4)))
    (l4 : K.lookup f4 = some ⟨oc4, od4, .func (PySem.W.fnOf "condition_holds" "condition_holds" (defArgs sCond) (defBody sCond) (defScope sCond) .none kV4 dc4 pm4 an4 (.ref c4) ct4), sl4⟩)
    (c_4 : PySem.W.codeIn K (.ref c4) "condition_holds" = true)
    (k4 : PySem.W.keepIn K (.ref f4) = true)
    (a5 : PySem.W.nsIn K mainGlobals "category_of" = some (some (.ref f5)))
    (l5 : K.lookup f5 = some ⟨oc5, od5, .func (PySem.W.fnOf "category_of" "category_of" (defArgs sCat) (defBody sCat) (defScope sCat) .none kV5 dc5 pm5 an5 cd5 ct5), sl5⟩)
    (c_5 : PySem.W.codeIn K cd5 "category_of" = true)
    (k5 : PySem.W.keepIn K (.ref f5) = true)
    (a6 : PySem.W.nsIn K mainGlobals "argument_of" = some (some (.ref f6)))
    (l6 : K.lookup f6 = some ⟨oc6, od6, .func (PySem.W.fnOf "argument_of" "argument_of" (defArgs sArg) (defBody sArg) (defScope sArg) .none kV6 dc6 pm6 an6 cd6 ct6), sl6⟩)
    (c_6 : PySem.W.codeIn K cd6 "argument_of" = true)
    (k6 : PySem.W.keepIn K (.ref f6) = true)
    (a7 : PySem.W.nsIn K mainGlobals "selected" = some (some (.ref f7)))
    (l7 : K.lookup f7 = some ⟨oc7, od7, .func (PySem.W.fnOf "selected" "selected" (defArgs sSel) (defBody sSel) (defScope sSel) .none kV7 dc7 pm7 an7 cd7 ct7), sl7⟩)
    (c_7 : PySem.W.codeIn K cd7 "selected" = true)
    (k7 : PySem.W.keepIn K (.ref f7) = true)
    (a8 : PySem.W.nsIn K mainGlobals "counted" = some (some (.ref f8)))
    (l8 : K.lookup f8 = some ⟨oc8, od8, .func (PySem.W.fnOf "counted" "counted" (defArgs sCnt) (defBody sCnt) (defScope sCnt) .none kV8 dc8 pm8 an8 cd8 ct8), sl8⟩)
    (c_8 : PySem.W.codeIn K cd8 "counted" = true)
    (k8 : PySem.W.keepIn K (.ref f8) = true)
    (a9 : PySem.W.nsIn K mainGlobals "number_of" = some (some (.ref f9)))
    (l9 : K.lookup f9 = some ⟨oc9, od9, .func (PySem.W.fnOf "number_of" "number_of" (defArgs sNum) (defBody sNum) (defScope sNum) .none kV9 dc9 pm9 an9 cd9 ct9), sl9⟩)
    (c_9 : PySem.W.codeIn K cd9 "number_of" = true)
    (k9 : PySem.W.keepIn K (.ref f9) = true)
    (a10 : PySem.W.nsIn K mainGlobals "shown_node" = some (some (.ref f10)))
    (l10 : K.lookup f10 = some ⟨oc10, od10, .func (PySem.W.fnOf "shown_node" "shown_node" (defArgs sNode) (defBody sNode) (defScope sNode) .none kV10 dc10 pm10 an10 cd10 ct10), sl10⟩)
    (c_10 : PySem.W.codeIn K cd10 "shown_node" = true)
    (k10 : PySem.W.keepIn K (.ref f10) = true)
    (a11 : PySem.W.nsIn K mainGlobals "shown_message" = some (some (.ref f11)))
    (l11 : K.lookup f11 = some ⟨oc11, od11, .func (PySem.W.fnOf "shown_message" "shown_message" (defArgs sMsg) (defBody sMsg) (defScope sMsg) .none kV11 dc11 pm11 an11 cd11 ct11), sl11⟩)
    (c_11 : PySem.W.codeIn K cd11 "shown_message" = true)
    (k11 : PySem.W.keepIn K (.ref f11) = true)
    (a12 : PySem.W.nsIn K mainGlobals "shown" = some (some (.ref f12)))
    (l12 : K.lookup f12 = some ⟨oc12, od12, .func (PySem.W.fnOf "shown" "shown" (defArgs sShown) (defBody sShown) (defScope sShown) .none kV12 dc12 pm12 an12 cd12 ct12), sl12⟩)
    (c_12 : PySem.W.codeIn K cd12 "shown" = true)
    (k12 : PySem.W.keepIn K (.ref f12) = true)
    (a13 : PySem.W.nsIn K mainGlobals "_law_cell" = some (some (.ref f13)))
    (l13 : K.lookup f13 = some ⟨oc13, od13, .func (PySem.W.fnOf "_law_cell" "_law_cell" (defArgs sCell) (defBody sCell) (defScope sCell) .none kV13 dc13 pm13 an13 cd13 ct13), sl13⟩)
    (c_13 : PySem.W.codeIn K cd13 "_law_cell" = true)
    (k13 : PySem.W.keepIn K (.ref f13) = true)
    (a14 : PySem.W.nsIn K mainGlobals "_law_digits" = some (some (.ref f14)))
    (l14 : K.lookup f14 = some ⟨oc14, od14, .func (PySem.W.fnOf "_law_digits" "_law_digits" (defArgs sDigits) (defBody sDigits) (defScope sDigits) .none kV14 dc14 pm14 an14 cd14 ct14), sl14⟩)
    (c_14 : PySem.W.codeIn K cd14 "_law_digits" = true)
    (k14 : PySem.W.keepIn K (.ref f14) = true)
    (a15 : PySem.W.nsIn K mainGlobals "_law_draw" = some (some (.ref f15)))
    (l15 : K.lookup f15 = some ⟨oc15, od15, .func (PySem.W.fnOf "_law_draw" "_law_draw" (defArgs sDraw) (defBody sDraw) (defScope sDraw) .none kV15 dc15 pm15 an15 cd15 ct15), sl15⟩)
    (c_15 : PySem.W.codeIn K cd15 "_law_draw" = true)
    (k15 : PySem.W.keepIn K (.ref f15) = true)
    (a16 : PySem.W.nsIn K mainGlobals "_law_string" = some (some (.ref f16)))
    (l16 : K.lookup f16 = some ⟨oc16, od16, .func (PySem.W.fnOf "_law_string" "_law_string" (defArgs sString) (defBody sString) (defScope sString) .none kV16 dc16 pm16 an16 cd16 ct16), sl16⟩)
    (c_16 : PySem.W.codeIn K cd16 "_law_string" = true)
    (k16 : PySem.W.keepIn K (.ref f16) = true)
    (a17 : PySem.W.nsIn K mainGlobals "_law_select" = some (some (.ref f17)))
    (l17 : K.lookup f17 = some ⟨oc17, od17, .func (PySem.W.fnOf "_law_select" "_law_select" (defArgs sSelD) (defBody sSelD) (defScope sSelD) .none kV17 dc17 pm17 an17 cd17 ct17), sl17⟩)
    (c_17 : PySem.W.codeIn K cd17 "_law_select" = true)
    (k17 : PySem.W.keepIn K (.ref f17) = true)
    (a18 : PySem.W.nsIn K mainGlobals "_law_plural" = some (some (.ref f18)))
    (l18 : K.lookup f18 = some ⟨oc18, od18, .func (PySem.W.fnOf "_law_plural" "_law_plural" (defArgs sPluD) (defBody sPluD) (defScope sPluD) .none kV18 dc18 pm18 an18 cd18 ct18), sl18⟩)
    (c_18 : PySem.W.codeIn K cd18 "_law_plural" = true)
    (k18 : PySem.W.keepIn K (.ref f18) = true)
    (a19 : PySem.W.nsIn K mainGlobals "_law_message" = some (some (.ref f19)))
    (l19 : K.lookup f19 = some ⟨oc19, od19, .func (PySem.W.fnOf "_law_message" "_law_message" (defArgs sMsgD) (defBody sMsgD) (defScope sMsgD) .none kV19 dc19 pm19 an19 cd19 ct19), sl19⟩)
    (c_19 : PySem.W.codeIn K cd19 "_law_message" = true)
    (k19 : PySem.W.keepIn K (.ref f19) = true)
    (a20 : PySem.W.nsIn K mainGlobals "_law_relation" = some (some (.ref f20)))
    (l20 : K.lookup f20 = some ⟨oc20, od20, .func (PySem.W.fnOf "_law_relation" "_law_relation" (defArgs sRelD) (defBody sRelD) (defScope sRelD) .none kV20 dc20 pm20 an20 cd20 ct20), sl20⟩)
    (c_20 : PySem.W.codeIn K cd20 "_law_relation" = true)
    (k20 : PySem.W.keepIn K (.ref f20) = true)
    (a21 : PySem.W.nsIn K mainGlobals "_law_condition" = some (some (.ref f21)))
    (l21 : K.lookup f21 = some ⟨oc21, od21, .func (PySem.W.fnOf "_law_condition" "_law_condition" (defArgs sCondD) (defBody sCondD) (defScope sCondD) .none kV21 dc21 pm21 an21 cd21 ct21), sl21⟩)
    (c_21 : PySem.W.codeIn K cd21 "_law_condition" = true)
    (k21 : PySem.W.keepIn K (.ref f21) = true)
    (a22 : PySem.W.nsIn K mainGlobals "_law_rules" = some (some (.ref f22)))
    (l22 : K.lookup f22 = some ⟨oc22, od22, .func (PySem.W.fnOf "_law_rules" "_law_rules" (defArgs sRulesD) (defBody sRulesD) (defScope sRulesD) .none kV22 dc22 pm22 an22 cd22 ct22), sl22⟩)
    (c_22 : PySem.W.codeIn K cd22 "_law_rules" = true)
    (k22 : PySem.W.keepIn K (.ref f22) = true)
    (a23 : PySem.W.nsIn K mainGlobals "_law_holds" = some (some (.ref f23)))
    (l23 : K.lookup f23 = some ⟨oc23, od23, .func (PySem.W.fnOf "_law_holds" "_law_holds" (defArgs sHolds) (defBody sHolds) (defScope sHolds) .none kV23 dc23 pm23 an23 cd23 ct23), sl23⟩)
    (c_23 : PySem.W.codeIn K cd23 "_law_holds" = true)
    (k23 : PySem.W.keepIn K (.ref f23) = true)
    (a24 : PySem.W.nsIn K mainGlobals "_law_category" = some (some (.ref f24)))
    (l24 : K.lookup f24 = some ⟨oc24, od24, .func (PySem.W.fnOf "_law_category" "_law_category" (defArgs sLCat) (defBody sLCat) (defScope sLCat) .none kV24 dc24 pm24 an24 cd24 ct24), sl24⟩)
    (c_24 : PySem.W.codeIn K cd24 "_law_category" = true)
    (k24 : PySem.W.keepIn K (.ref f24) = true)
    (a25 : PySem.W.nsIn K mainGlobals "_law_far" = some (some (.ref f25)))
    (l25 : K.lookup f25 = some ⟨oc25, od25, .func (PySem.W.fnOf "_law_far" "_law_far" (defArgs sFar) (defBody sFar) (defScope sFar) .none kV25 dc25 pm25 an25 cd25 ct25), sl25⟩)
    (c_25 : PySem.W.codeIn K cd25 "_law_far" = true)
    (k25 : PySem.W.keepIn K (.ref f25) = true)
    (a26 : PySem.W.nsIn K mainGlobals "_law_chosen" = some (some (.ref f26)))
    (l26 : K.lookup f26 = some ⟨oc26, od26, .func (PySem.W.fnOf "_law_chosen" "_law_chosen" (defArgs sChosen) (defBody sChosen) (defScope sChosen) .none kV26 dc26 pm26 an26 cd26 ct26), sl26⟩)
    (c_26 : PySem.W.codeIn K cd26 "_law_chosen" = true)
    (k26 : PySem.W.keepIn K (.ref f26) = true)
    (a27 : PySem.W.nsIn K mainGlobals "_law_show" = some (some (.ref f27)))
    (l27 : K.lookup f27 = some ⟨oc27, od27, .func (PySem.W.fnOf "_law_show" "_law_show" (defArgs sLShow) (defBody sLShow) (defScope sLShow) .none kV27 dc27 pm27 an27 cd27 ct27), sl27⟩)
    (c_27 : PySem.W.codeIn K cd27 "_law_show" = true)
    (k27 : PySem.W.keepIn K (.ref f27) = true)
    (a28 : PySem.W.nsIn K mainGlobals "_law_told" = some (some (.ref f28)))
    (l28 : K.lookup f28 = some ⟨oc28, od28, .func (PySem.W.fnOf "_law_told" "_law_told" (defArgs sTold) (defBody sTold) (defScope sTold) .none kV28 dc28 pm28 an28 cd28 ct28), sl28⟩)
    (c_28 : PySem.W.codeIn K cd28 "_law_told" = true)
    (k28 : PySem.W.keepIn K (.ref f28) = true)
    (a29 : PySem.W.nsIn K mainGlobals "law" = some (some (.ref f29)))
    (l29 : K.lookup f29 = some ⟨oc29, od29, .func (PySem.W.fnOf "law" "law" (defArgs sLaw) (defBody sLaw) (defScope sLaw) .none kV29 dc29 pm29 an29 cd29 ct29), sl29⟩)
    (c_29 : PySem.W.codeIn K cd29 "law" = true)
    (k29 : PySem.W.keepIn K (.ref f29) = true)
    (t3 : K.lookup c3 = some ⟨tc3, td3, .fields tvs3, tsl3⟩)
    (u3 : tvs3[11]? = some (.ref P3))
    (n3 : K.lookup P3 = none)
    (t4 : K.lookup c4 = some ⟨tc4, td4, .fields tvs4, tsl4⟩)
    (u4 : tvs4[11]? = some (.ref P4))
    (n4 : K.lookup P4 = none)
    (aL : PySem.W.nsIn K mainGlobals "Language" = some (some (.ref C)))
    (iL : PySem.W.findIn K (.ref C) "__init__" = some (some (.ref fL)))
    (jL : PySem.W.isFn K (.ref fL) = true)
    (lL : K.lookup fL = some ⟨ocL, odL, .func (PySem.W.fnOf "__init__" "Language.__init__" (defArgs sLang) (defBody sLang) (defScope sLang) .none kVL dcL pmL anL cdL ctL), slL⟩)
    (cL : PySem.W.codeIn K cdL "Language.__init__" = true)
    (kL : PySem.W.keepIn K (.ref fL) = true)
    (pgL : PySem.W.plainGet K C Str.empty = true)
    (hdL : PySem.W.hasDictIn K C = true)
    (poL : PySem.W.plainOver K C = true)
    (saL : PySem.W.findIn K (.ref C) "__setattr__" = some (some (.builtin "object.__setattr__")))
    (mkL : PySem.W.makesIn K C = true)
    (kcL : PySem.W.keepIn K (.ref C) = true)
    (nRL : PySem.W.findIn K (.ref C) "rules" = some none)
    (zTEXT : PySem.W.nsIn K mainGlobals "TEXT" = some (some (.str "text" tkTEXT)))
    (zSHOW : PySem.W.nsIn K mainGlobals "SHOW" = some (some (.str "show" tkSHOW)))
    (zNUMBER : PySem.W.nsIn K mainGlobals "NUMBER" = some (some (.str "number" tkNUMBER)))
    (zSELECT : PySem.W.nsIn K mainGlobals "SELECT" = some (some (.str "select" tkSELECT)))
    (zOTHER : PySem.W.nsIn K mainGlobals "OTHER" = some (some (.str "other" tkOTHER)))
    (y_any : PySem.W.nsIn K mainGlobals "any" = some none)
    (y_all : PySem.W.nsIn K mainGlobals "all" = some none)
    (y_list : PySem.W.nsIn K mainGlobals "list" = some none)
    (y_isinstance : PySem.W.nsIn K mainGlobals "isinstance" = some none)
    (y_str : PySem.W.nsIn K mainGlobals "str" = some none)
    (y_dict : PySem.W.nsIn K mainGlobals "dict" = some none)
    (y_len : PySem.W.nsIn K mainGlobals "len" = some none)
    (y_int : PySem.W.nsIn K mainGlobals "int" = some none)
    (y_range : PySem.W.nsIn K mainGlobals "range" = some none)
    (y_tuple : PySem.W.nsIn K mainGlobals "tuple" = some none)
    (y_super : PySem.W.nsIn K mainGlobals "super" = some none)
    (aC0 : PySem.W.nsIn K mainGlobals "MessagewaysError" = some (some (.ref C0)))
    (xC0 : K.lookup C0 = some (excClassObj nm0 qn0 C0 N0 bs0 [.type "ValueError", .type "Exception", .type "BaseException", .type "object"] true sn0 sub0 ab0 col0 dd0 m00 m10 m20 m30 m50 "ValueError.__new__"))
    (fC0 : PySem.W.findIn K (.ref C0) "__init__" = some (some (.builtin "ValueError.__init__")))
    (eC0 : PySem.W.subIn K (.ref C0) (.type "BaseException") = some true)
    (hC0 : PySem.W.hasDictIn K C0 = true)
    (tC0 : PySem.W.typeIn K (.ref C0) = some (.type "type"))
    (spn : PySem.W.specialIn K (.builtin "object.__class__") "__get__" = some (some (.builtin "getset_descriptor.__get__")))
    (tkn : PySem.W.takesIn K (.builtin "object.__class__") = some true)
    (no3 : PySem.W.nsIn K PySem.cStatics "thirdparty.any" = some none)
    (htop : (l.prog.main.scope.names.lookup ("super" : Str)).isSome = false)
    (aC1 : PySem.W.nsIn K mainGlobals "MissingArgument" = some (some (.ref C1)))
    (xC1 : K.lookup C1 = some (excClassObj nm1 qn1 C1 N1 bs1 [.ref C0, .type "ValueError", .type "Exception", .type "BaseException", .type "object"] true sn1 sub1 ab1 col1 dd1 m01 m11 m21 m31 m51 "ValueError.__new__"))
    (rC1 : PySem.HandSPX.refsVE [.ref C0, .type "ValueError", .type "Exception", .type "BaseException", .type "object"] = true)
    (saC1 : PySem.W.findIn K (.ref C1) "__setattr__" = some (some (.builtin "object.__setattr__")))
    (nnC1 : PySem.W.findIn K (.ref C1) "name" = some none)
    (inC1 : PySem.W.findIn K (.ref C1) "__init__" = some (some (.ref g1)))
    (tgC1 : PySem.W.typeIn K (.ref g1) = some (.type "function"))
    (kC1 : PySem.W.keepIn K (.ref C1) = true)
    (exC1 : PySem.W.subIn K (.ref C1) (.type "BaseException") = some true)
    (veC1 : PySem.W.subIn K (.ref C1) (.type "ValueError") = some true)
    (mcC1 : PySem.W.mroIn K C1 (.ref C1) = some true)
    (moC1 : PySem.W.mroIn K C1 (.type "object") = some true)
    (tyC1 : PySem.W.typeIn K (.ref C1) = some (.type "type"))
    (lgC1 : K.lookup g1 = some ⟨ocg1, odg1, .func (PySem.W.ksFn "__init__" "MissingArgument.__init__" (PySem.ErrX.iA ⟨6, 17, 6, 21⟩ ⟨6, 23, 6, 27⟩) (PySem.ErrX.iB [.Constant (.str "there is no argument ") 0 ⟨7, 27, 7, 48⟩, .FormattedValue (.Name "name" ⟨7, 49, 7, 53⟩) (-1) none ⟨7, 48, 7, 54⟩] ⟨7, 25, 7, 55⟩ ⟨7, 8, 7, 13⟩ ⟨7, 8, 7, 15⟩ ⟨7, 8, 7, 24⟩ ⟨7, 8, 7, 56⟩ ⟨7, 8, 7, 56⟩ ⟨8, 8, 8, 12⟩ ⟨8, 8, 8, 17⟩ ⟨8, 20, 8, 24⟩ ⟨8, 8, 8, 24⟩) PySem.ErrX.iS .none .none dcg1 pmg1 ang1 (.ref cda1) ctg1 cc1), slg1⟩)
    (cgC1 : PySem.W.codeIn K (.ref cda1) "MissingArgument.__init__" = true)
    (ceC1 : K.lookup cc1 = some ⟨ccl1, cld1, .cell (some (.ref C1)), csl1⟩)
    (coC1 : K.lookup cda1 = some ⟨dcl1, dld1, .fields dvs1, dsl1⟩)
    (fiC1 : dvs1[2]? = some (.str file1 tf1))
    (fmC1 : ((l.prog.main.file : Str) == file1) = true)
    (gaC1 : PySem.W.findIn K (.ref C1) "__getattribute__" = some (some (.builtin "BaseException.__getattribute__")))
    (ggC1 : PySem.W.findIn K (.ref C1) "__getattr__" = some none)
    (hdC1 : PySem.W.hasDictIn K C1 = true)
    (clC1 : PySem.W.findIn K (.ref C1) "__class__" = some (some (.builtin "object.__class__")))
    (s0C1 : PySem.W.subIn K (.ref C1) (.ref C0) = some true)
    (aC2 : PySem.W.nsIn K mainGlobals "WrongArgument" = some (some (.ref C2)))
    (xC2 : K.lookup C2 = some (excClassObj nm2 qn2 C2 N2 bs2 [.ref C0, .type "ValueError", .type "Exception", .type "BaseException", .type "object"] true sn2 sub2 ab2 col2 dd2 m02 m12 m22 m32 m52 "ValueError.__new__"))
    (rC2 : PySem.HandSPX.refsVE [.ref C0, .type "ValueError", .type "Exception", .type "BaseException", .type "object"] = true)
    (saC2 : PySem.W.findIn K (.ref C2) "__setattr__" = some (some (.builtin "object.__setattr__")))
    (nnC2 : PySem.W.findIn K (.ref C2) "name" = some none)
    (inC2 : PySem.W.findIn K (.ref C2) "__init__" = some (some (.ref g2)))
    (tgC2 : PySem.W.typeIn K (.ref g2) = some (.type "function"))
    (kC2 : PySem.W.keepIn K (.ref C2) = true)
    (exC2 : PySem.W.subIn K (.ref C2) (.type "BaseException") = some true)
    (veC2 : PySem.W.subIn K (.ref C2) (.type "ValueError") = some true)
    (mcC2 : PySem.W.mroIn K C2 (.ref C2) = some true)
    (moC2 : PySem.W.mroIn K C2 (.type "object") = some true)
    (tyC2 : PySem.W.typeIn K (.ref C2) = some (.type "type"))
    (lgC2 : K.lookup g2 = some ⟨ocg2, odg2, .func (PySem.W.ksFn "__init__" "WrongArgument.__init__" (PySem.ErrX.iA ⟨11, 17, 11, 21⟩ ⟨11, 23, 11, 27⟩) (PySem.ErrX.iB [.Constant (.str "argument ") 0 ⟨12, 27, 12, 36⟩, .FormattedValue (.Name "name" ⟨12, 37, 12, 41⟩) (-1) none ⟨12, 36, 12, 42⟩, .Constant (.str " is of another kind") 0 ⟨12, 42, 12, 61⟩] ⟨12, 25, 12, 62⟩ ⟨12, 8, 12, 13⟩ ⟨12, 8, 12, 15⟩ ⟨12, 8, 12, 24⟩ ⟨12, 8, 12, 63⟩ ⟨12, 8, 12, 63⟩ ⟨13, 8, 13, 12⟩ ⟨13, 8, 13, 17⟩ ⟨13, 20, 13, 24⟩ ⟨13, 8, 13, 24⟩) PySem.ErrX.iS .none .none dcg2 pmg2 ang2 (.ref cda2) ctg2 cc2), slg2⟩)
    (cgC2 : PySem.W.codeIn K (.ref cda2) "WrongArgument.__init__" = true)
    (ceC2 : K.lookup cc2 = some ⟨ccl2, cld2, .cell (some (.ref C2)), csl2⟩)
    (coC2 : K.lookup cda2 = some ⟨dcl2, dld2, .fields dvs2, dsl2⟩)
    (fiC2 : dvs2[2]? = some (.str file2 tf2))
    (fmC2 : ((l.prog.main.file : Str) == file2) = true)
    (gaC2 : PySem.W.findIn K (.ref C2) "__getattribute__" = some (some (.builtin "BaseException.__getattribute__")))
    (ggC2 : PySem.W.findIn K (.ref C2) "__getattr__" = some none)
    (hdC2 : PySem.W.hasDictIn K C2 = true)
    (clC2 : PySem.W.findIn K (.ref C2) "__class__" = some (some (.builtin "object.__class__")))
    (s0C2 : PySem.W.subIn K (.ref C2) (.ref C0) = some true)
    (q11 : PySem.W.kitOne K (.ref C1) (.ref C1) = some true)
    (q21 : PySem.W.kitOne K (.ref C2) (.ref C1) = some false)
    (q22 : PySem.W.kitOne K (.ref C2) (.ref C2) = some true) :
    ∃ (c1 P1 c2 P2 : Addr) (fd : FuncData), PySem.W.tabIn K "relation_holds" = some (c1, P1) ∧ PySem.W.tabIn K "condition_holds" = some (c2, P2) ∧ K.lookup P1 = none ∧ K.lookup P2 = none ∧ (∀ (s : Shared) (v : Value), BindsTo s fd ⟨[v], []⟩ [("_law_script", v)]) ∧
      ∀ base : Heap, K.In base → base.Ns mainGlobals mg → LamX.TabB base mg c1 P1 → LamX.TabB base mg c2 P2 → FnOk l.prog w K mg base CX0 17 fa fd ["_law_script"] (spLaw K P1 P2) := by
  have e := hfa.symm.trans (PySem.W.mg_of X G a29)
  cases e
  have F1 := fun_mk (st := sCases) l1 c_1 k1
  have b1 := F1.binds (ps := ["node"]) fun _ _ _ _ _ _ us hl => match us, hl with | [_], _ => rfl
  have m1 := PySem.W.mg_of X G a1
  have F2 := fun_mk (st := sOther) l2 c_2 k2
  have b2 := F2.binds (ps := ["node"]) fun _ _ _ _ _ _ us hl => match us, hl with | [_], _ => rfl
  have m2 := PySem.W.mg_of X G a2
  have F3 : FunC K "relation_holds" "relation_holds" sRel f3 _ c3 := ⟨⟨_, _, _, _, _, _, _, _, rfl, l3, c_3⟩, k3⟩
  have F3p : Fun K "relation_holds" "relation_holds" sRel f3 _ := fun_mk (st := sRel) l3 c_3 k3
  have b3 := F3p.binds (ps := ["relation", "number"]) fun _ _ _ _ _ _ us hl => match us, hl with | [_, _], _ => rfl
  have m3 := PySem.W.mg_of X G a3
  have F4 : FunC K "condition_holds" "condition_holds" sCond f4 _ c4 := ⟨⟨_, _, _, _, _, _, _, _, rfl, l4, c_4⟩, k4⟩
  have F4p : Fun K "condition_holds" "condition_holds" sCond f4 _ := fun_mk (st := sCond) l4 c_4 k4
  have b4 := F4p.binds (ps := ["condition", "number"]) fun _ _ _ _ _ _ us hl => match us, hl with | [_, _], _ => rfl
  have m4 := PySem.W.mg_of X G a4
  have F5 := fun_mk (st := sCat) l5 c_5 k5
  have b5 := F5.binds (ps := ["language", "number"]) fun _ _ _ _ _ _ us hl => match us, hl with | [_, _], _ => rfl
  have m5 := PySem.W.mg_of X G a5
  have F6 := fun_mk (st := sArg) l6 c_6 k6
  have b6 := F6.binds (ps := ["arguments", "name"]) fun _ _ _ _ _ _ us hl => match us, hl with | [_, _], _ => rfl
  have m6 := PySem.W.mg_of X G a6
  have F7 := fun_mk (st := sSel) l7 c_7 k7
  have b7 := F7.binds (ps := ["node", "arguments"]) fun _ _ _ _ _ _ us hl => match us, hl with | [_, _], _ => rfl
  have m7 := PySem.W.mg_of X G a7
  have F8 := fun_mk (st := sCnt) l8 c_8 k8
  have b8 := F8.binds (ps := ["node", "language", "number"]) fun _ _ _ _ _ _ us hl => match us, hl with | [_, _, _], _ => rfl
  have m8 := PySem.W.mg_of X G a8
  have F9 := fun_mk (st := sNum) l9 c_9 k9
  have b9 := F9.binds (ps := ["node", "arguments"]) fun _ _ _ _ _ _ us hl => match us, hl with | [_, _], _ => rfl
  have m9 := PySem.W.mg_of X G a9
  have F10 := fun_mk (st := sNode) l10 c_10 k10
  have b10 := F10.binds (ps := ["node", "language", "arguments", "left"]) fun _ _ _ _ _ _ us hl => match us, hl with | [_, _, _, _], _ => rfl
  have m10 := PySem.W.mg_of X G a10
  have F11 := fun_mk (st := sMsg) l11 c_11 k11
  have b11 := F11.binds (ps := ["message", "language", "arguments", "left"]) fun _ _ _ _ _ _ us hl => match us, hl with | [_, _, _, _], _ => rfl
  have m11 := PySem.W.mg_of X G a11
  have F12 := fun_mk (st := sShown) l12 c_12 k12
  have b12 := F12.binds (ps := ["message", "language", "arguments"]) fun _ _ _ _ _ _ us hl => match us, hl with | [_, _, _], _ => rfl
  have m12 := PySem.W.mg_of X G a12
  have F13 := fun_mk (st := sCell) l13 c_13 k13
  have b13 := F13.binds (ps := ["_law_script", "_law_k"]) fun _ _ _ _ _ _ us hl => match us, hl with | [_, _], _ => rfl
  have m13 := PySem.W.mg_of X G a13
  have F14 := fun_mk (st := sDigits) l14 c_14 k14
  have b14 := F14.binds (ps := ["_law_script", "_law_first", "_law_last"]) fun _ _ _ _ _ _ us hl => match us, hl with | [_, _, _], _ => rfl
  have m14 := PySem.W.mg_of X G a14
  have F15 := fun_mk (st := sDraw) l15 c_15 k15
  have b15 := F15.binds (ps := ["_law_box", "_law_many"]) fun _ _ _ _ _ _ us hl => match us, hl with | [_, _], _ => rfl
  have m15 := PySem.W.mg_of X G a15
  have F16 := fun_mk (st := sString) l16 c_16 k16
  have b16 := F16.binds (ps := ["_law_box"]) fun _ _ _ _ _ _ us hl => match us, hl with | [_], _ => rfl
  have m16 := PySem.W.mg_of X G a16
  have F17 := fun_mk (st := sSelD) l17 c_17 k17
  have b17 := F17.binds (ps := ["_law_box", "_law_depth", "_law_inside"]) fun _ _ _ _ _ _ us hl => match us, hl with | [_, _, _], _ => rfl
  have m17 := PySem.W.mg_of X G a17
  have F18 := fun_mk (st := sPluD) l18 c_18 k18
  have b18 := F18.binds (ps := ["_law_box", "_law_depth"]) fun _ _ _ _ _ _ us hl => match us, hl with | [_, _], _ => rfl
  have m18 := PySem.W.mg_of X G a18
  have F19 := fun_mk (st := sMsgD) l19 c_19 k19
  have b19 := F19.binds (ps := ["_law_box", "_law_depth", "_law_inside"]) fun _ _ _ _ _ _ us hl => match us, hl with | [_, _, _], _ => rfl
  have m19 := PySem.W.mg_of X G a19
  have F20 := fun_mk (st := sRelD) l20 c_20 k20
  have b20 := F20.binds (ps := ["_law_box"]) fun _ _ _ _ _ _ us hl => match us, hl with | [_], _ => rfl
  have m20 := PySem.W.mg_of X G a20
  have F21 := fun_mk (st := sCondD) l21 c_21 k21
  have b21 := F21.binds (ps := ["_law_box"]) fun _ _ _ _ _ _ us hl => match us, hl with | [_], _ => rfl
  have m21 := PySem.W.mg_of X G a21
  have F22 := fun_mk (st := sRulesD) l22 c_22 k22
  have b22 := F22.binds (ps := ["_law_box"]) fun _ _ _ _ _ _ us hl => match us, hl with | [_], _ => rfl
  have m22 := PySem.W.mg_of X G a22
  have F23 := fun_mk (st := sHolds) l23 c_23 k23
  have b23 := F23.binds (ps := ["_law_condition_here", "_law_number"]) fun _ _ _ _ _ _ us hl => match us, hl with | [_, _], _ => rfl
  have m23 := PySem.W.mg_of X G a23
  have F24 := fun_mk (st := sLCat) l24 c_24 k24
  have b24 := F24.binds (ps := ["_law_rules_here", "_law_number"]) fun _ _ _ _ _ _ us hl => match us, hl with | [_, _], _ => rfl
  have m24 := PySem.W.mg_of X G a24
  have F25 := fun_mk (st := sFar) l25 c_25 k25
  have b25 := F25.binds (ps := ["_law_box"]) fun _ _ _ _ _ _ us hl => match us, hl with | [_], _ => rfl
  have m25 := PySem.W.mg_of X G a25
  have F26 := fun_mk (st := sChosen) l26 c_26 k26
  have b26 := F26.binds (ps := ["_law_node", "_law_rules_here", "_law_value"]) fun _ _ _ _ _ _ us hl => match us, hl with | [_, _, _], _ => rfl
  have m26 := PySem.W.mg_of X G a26
  have F27 := fun_mk (st := sLShow) l27 c_27 k27
  have b27 := F27.binds (ps := ["_law_message_here", "_law_rules_here", "_law_arguments", "_law_left"]) fun _ _ _ _ _ _ us hl => match us, hl with | [_, _, _, _], _ => rfl
  have m27 := PySem.W.mg_of X G a27
  have F28 := fun_mk (st := sTold) l28 c_28 k28
  have b28 := F28.binds (ps := ["_law_message_here", "_law_language", "_law_arguments"]) fun _ _ _ _ _ _ us hl => match us, hl with | [_, _, _], _ => rfl
  have m28 := PySem.W.mg_of X G a28
  have F29 := fun_mk (st := sLaw) l29 c_29 k29
  have b29 := F29.binds (ps := ["_law_script"]) fun _ _ _ _ _ _ us hl => match us, hl with | [_], _ => rfl
  have m29 := PySem.W.mg_of X G a29
  have FL := fun_mk (st := sLang) lL cL kL
  have bL := FL.binds (ps := ["self", "rules"]) fun _ _ _ _ _ _ us hl => match us, hl with | [_, _], _ => rfl
  have B : Bt mg := ⟨PySem.W.mg_none_of X G y_any, PySem.W.mg_none_of X G y_all, PySem.W.mg_none_of X G y_list, PySem.W.mg_none_of X G y_isinstance, PySem.W.mg_none_of X G y_str, PySem.W.mg_none_of X G y_dict, PySem.W.mg_none_of X G y_len, PySem.W.mg_none_of X G y_int, PySem.W.mg_none_of X G y_range, PySem.W.mg_none_of X G y_tuple⟩
  have T : Lc K mg C := ⟨⟨pgL, hdL, poL, saL⟩, nRL, ⟨_, PySem.W.mg_of X G zTEXT⟩, ⟨_, PySem.W.mg_of X G zSHOW⟩, ⟨_, PySem.W.mg_of X G zNUMBER⟩, ⟨_, PySem.W.mg_of X G zSELECT⟩, ⟨_, PySem.W.mg_of X G zOTHER⟩⟩
  have along : PySem.W.alongIn K "__init__" [.ref C0, .type "ValueError", .type "Exception", .type "BaseException", .type "object"] = some (some (.builtin "ValueError.__init__")) := by
    unfold PySem.W.findIn at fC0
    simp only [xC0] at fC0
    exact fC0
  have R1 : PySem.ErrX.ErrTxt l.prog K mg "MissingArgument" "MissingArgument.__init__" C1 g1 :=
    { gC := PySem.W.mg_of X G aC1, sup := PySem.W.mg_none_of X G y_super, cls := ⟨_, _, _, _, _, _, _, _, _, _, _, _, _, _, _, xC1, rC1, along⟩, sa := saC1, noN := nnC1, iC := inC1, tC := tgC1, kC := kC1, exC := exC1, vE := veC1, mC := mcC1, tyC := tyC1, no3 := no3, htop := htop,
      fn := ⟨_, _, _, _, _, _, _, _, _, _, _, _, _, _, _, _, _, _, _, _, _, _, _, _, _, _, _, _, _, _, _, lgC1, cgC1, ceC1, coC1, fiC1, fmC1, (by decide), fun w => js2⟩ }
  have R2 : PySem.ErrX.ErrTxt l.prog K mg "WrongArgument" "WrongArgument.__init__" C2 g2 :=
    { gC := PySem.W.mg_of X G aC2, sup := PySem.W.mg_none_of X G y_super, cls := ⟨_, _, _, _, _, _, _, _, _, _, _, _, _, _, _, xC2, rC2, along⟩, sa := saC2, noN := nnC2, iC := inC2, tC := tgC2, kC := kC2, exC := exC2, vE := veC2, mC := mcC2, tyC := tyC2, no3 := no3, htop := htop,
      fn := ⟨_, _, _, _, _, _, _, _, _, _, _, _, _, _, _, _, _, _, _, _, _, _, _, _, _, _, _, _, _, _, _, lgC2, cgC2, ceC2, coC2, fiC2, fmC2, (by decide), fun w => js3⟩ }
  have R : Er l.prog K mg C1 C2 g1 g2 := ⟨R1, R2⟩
  have Z : Ec K mg C0 C1 C2 := ⟨PySem.W.mg_of X G aC0, PySem.W.exm_ref eC0 hC0 tC0 s0C1, PySem.W.exm_ref eC0 hC0 tC0 s0C2, ⟨gaC1, ggC1, exC1, hdC1, clC1, spn, tkn, moC1⟩, ⟨gaC2, ggC2, exC2, hdC2, clC2, spn, tkn, moC2⟩, q11, q21, q22⟩
  refine ⟨c3, P3, c4, P4, PySem.W.fnOf "law" "law" (defArgs sLaw) (defBody sLaw) (defScope sLaw) .none kV29 dc29 pm29 an29 cd29 ct29, tabIn_of a3 l3 rfl t3 u3, tabIn_of a4 l4 rfl t4 u4, n3, n4, fun s v => .of_eq rfl, fun base _ _ TB1 TB2 => ?_⟩
  have bm := GA.BM.of TB1.bm
  have dCases : Dn l.prog w K mg base CX0 "cases_of" ["node"] 1 _ := ⟨f1, _, ok_cases F1, m1, k1, b1⟩
  have dOther : Dn l.prog w K mg base CX0 "other_of" ["node"] 1 _ := ⟨f2, _, ok_other F2, m2, k2, b2⟩
  have dRel : Dn l.prog w K mg base CX0 "relation_holds" ["relation", "number"] 3 _ := ⟨f3, _, ok_rel F3 B bm TB1.code, m3, k3, b3⟩
  have dCond : Dn l.prog w K mg base CX0 "condition_holds" ["condition", "number"] 6 _ := ⟨f4, _, ok_cond F4 B bm TB2.code dRel, m4, k4, b4⟩
  have dCat : Dn l.prog w K mg base CX0 "category_of" ["language", "number"] 7 _ := ⟨f5, _, ok_cat F5 T dCond, m5, k5, b5⟩
  have dArg : Dn l.prog w K mg base (L2.CX l.prog w) "argument_of" ["arguments", "name"] 3 _ := ⟨f6, _, ok_arg F6 R, m6, k6, b6⟩
  have dSel : Dn l.prog w K mg base (L2.CX l.prog w) "selected" ["node", "arguments"] 4 _ := ⟨f7, _, ok_sel F7 B R dArg dCases dOther, m7, k7, b7⟩
  have dNum : Dn l.prog w K mg base (L2.CX l.prog w) "number_of" ["node", "arguments"] 4 _ := ⟨f9, _, ok_num F9 B R dArg, m9, k9, b9⟩
  have dCnt : Dn l.prog w K mg base CX0 "counted" ["node", "language", "number"] 8 _ := ⟨f8, _, ok_cnt F8 B dCat dCases dOther, m8, k8, b8⟩
  have dMsg := msg_levels F10 F11 m10 m11 b10 b11 B T R dArg dSel dNum dCnt 3 (Nat.le_refl 3)
  have dShown : Dn l.prog w K mg base (L2.CX l.prog w) "shown" ["message", "language", "arguments"] 15 _ := ⟨f12, _, ok_shown F12 dMsg, m12, k12, b12⟩
  have dTold : Dn l.prog w K mg base CX0 "_law_told" ["_law_message_here", "_law_language", "_law_arguments"] 16 _ := ⟨f28, _, ok_told F28 B R Z dShown, m28, k28, b28⟩
  have dHolds : Dn l.prog w K mg base CX0 "_law_holds" ["_law_condition_here", "_law_number"] 1 _ := ⟨f23, _, ok_holds F23 B, m23, k23, b23⟩
  have dLCat : Dn l.prog w K mg base CX0 "_law_category" ["_law_rules_here", "_law_number"] 2 _ := ⟨f24, _, ok_lcat F24 dHolds, m24, k24, b24⟩
  have dCh : ∀ d, Dn l.prog w K mg base CX0 "_law_chosen" pChosen 3 (spChosen d) := fun d => ⟨f26, _, ok_chosen F26 B dLCat, m26, k26, b26⟩
  have dShow := lshow_levels F27 m27 b27 B dCh 3
  have dDraw : Dn l.prog w K mg base CX0 "_law_draw" ["_law_box", "_law_many"] 1 _ := ⟨f15, _, ok_draw F15 B, m15, k15, b15⟩
  have dStr : Dn l.prog w K mg base CX0 "_law_string" ["_law_box"] 2 _ := ⟨f16, _, ok_string F16 dDraw, m16, k16, b16⟩
  have dFar : Dn l.prog w K mg base CX0 "_law_far" ["_law_box"] 2 _ := ⟨f25, _, ok_far F25 dDraw, m25, k25, b25⟩
  have dMk := mk_levels F19 F18 F17 m19 m18 m17 b19 b18 b17 B dDraw dStr 2
  have dRelD : Dn l.prog w K mg base CX0 "_law_relation" ["_law_box"] 2 _ := ⟨f20, _, ok_relD F20 B dDraw, m20, k20, b20⟩
  have dCondD : Dn l.prog w K mg base CX0 "_law_condition" ["_law_box"] 3 _ := ⟨f21, _, ok_condD F21 B dDraw dRelD, m21, k21, b21⟩
  have dRulesD : Dn l.prog w K mg base CX0 "_law_rules" ["_law_box"] 4 _ := ⟨f22, _, ok_rulesD F22 dDraw dCondD, m22, k22, b22⟩
  have dCell : Dn l.prog w K mg base CX0 "_law_cell" ["_law_script", "_law_k"] 1 _ := ⟨f13, _, ok_cell F13 B, m13, k13, b13⟩
  have dDig : Dn l.prog w K mg base CX0 "_law_digits" ["_law_script", "_law_first", "_law_last"] 2 _ := ⟨f14, _, ok_digits F14 B dCell, m14, k14, b14⟩
  exact ok_law F29 B T ⟨mkL, iL, jL, kcL⟩ (ok_lang FL B T) bL (PySem.W.mg_of X G aL) dDig dDraw dMk dRulesD dFar dTold dShow dCnt (dCh 2) dShown
theorem walk {l : PySem.W.OpenLaw} {q : Program} {loose : List Str} {XP : (Str → Option Value) → Heap → Prop} {YP : World → Heap → Prop} {d : DefRec} {K : Params → PySem.W.Frag} (hn : l.most = some 63) (hdf : d.params.defaults = [])
    (h1 : ((recsOf q).find? (fun e => e.name == ("relation_holds" : Str))).isSome = true) (h2 : ((recsOf q).find? (fun e => e.name == ("condition_holds" : Str))).isSome = true) (hY : ∀ (w : World) (h : Heap), YP w h → (K w.params).In h)
    (F : ∀ (w : World) (mg : Str → Option Value) (fa : Addr) (h : Heap), (K w.params).In h → h.Ns mainGlobals mg → mg d.name = some (.ref fa) →
      ∃ (c1 P1 c2 P2 : Addr) (fd : FuncData), PySem.W.tabIn (K w.params) "relation_holds" = some (c1, P1) ∧ PySem.W.tabIn (K w.params) "condition_holds" = some (c2, P2) ∧ (K w.params).lookup P1 = none ∧ (K w.params).lookup P2 = none ∧ (∀ (s : Shared) (v : Value), BindsTo s fd ⟨[v], []⟩ [("_law_script", v)]) ∧
        ∀ base : Heap, (K w.params).In base → base.Ns mainGlobals mg → LamX.TabB base mg c1 P1 → LamX.TabB base mg c2 P2 → FnOk l.prog w (K w.params) mg base CX0 17 fa fd ["_law_script"] (spLaw (K w.params) P1 P2)) :
    PySem.W.WalkO q loose XP YP l.row.toRowW d [] (fun f vs => PySem.call f vs) := by
  refine Att.attach_callB hn hdf fun w s₀ s₁ mg mb fa o pm cd doc a vs ns G Y ho hd hcd hmg hobj hints hlen hbits hg => ?_
  have KX := hY w _ Y
  obtain ⟨dr, h1⟩ := Option.isSome_iff_exists.mp h1
  obtain ⟨dc, h2⟩ := Option.isSome_iff_exists.mp h2
  obtain ⟨c1, P1, c2, P2, fd, t1, t2, n1, n2, hb, hF⟩ := F w mg fa _ KX G.T.g hmg
  obtain ⟨e1, g1⟩ := PySem.W.tab_of G.T KX h1 t1
  obtain ⟨e2, g2⟩ := PySem.W.tab_of G.T KX h2 t2
  have two : ∀ {Pd : Addr × Addr → Prop}, Pd (c1, P1) → Pd (c2, P2) → ∀ p ∈ [(c1, P1), (c2, P2)], Pd p := fun {Pd} u v p hp => by
    simp only [List.mem_cons, List.not_mem_nil, or_false] at hp
    rcases hp with rfl | rfl
    · exact u
    · exact v
  exact LamX.law_callTs (CX := CX0) (k := 17) (cs := [(c1, P1), (c2, P2)]) (x := "_law_script") (sp := spLaw (K w.params) P1 P2) KX G.T.g G.T.b G.T.builtins G.T.nolimit hg (two g1 g2) (two n1 n2) (two e1 e2) G.T.bmain hobj hints (Nat.le_trans hlen (by decide)) ⟨rfl, by decide, by decide⟩
    (fun base hK hN hT => hF base hK hN (hT (c1, P1) (by simp)) (hT (c2, P2) (by simp))) hb
    (fun H hH hS => ⟨a, ns, rfl, hS, GA.TG.nil (hH (c1, P1) (by simp)) 1, GA.TG.nil (hH (c2, P2) (by simp)) 2, fun _ => rfl⟩) fun H e s' z => z
end MW

open PySem PySem.W PyProof.Rows
set_option maxRecDepth 100000 in
set_option maxHeartbeats 0 in
theorem PySem.Challenge.cw_messageways_k11_what_messages_show_holds : PySem.Challenge.rw_messageways_k11_what_messages_show.Holds := by
  w_on; o_law; k_head; (case hw => w_witness2)
  k_fill
  refine MW.walk (l := PySem.Challenge.rw_messageways_k11_what_messages_show) rfl rfl ?h1 ?h2 (fun w h Y => PySem.W.kIn_of Y) ?F
  case h1 => first | decide +kernel | rfl
  case h2 => first | decide +kernel | rfl
  case F =>
    intro w mg fa h KX G hmg
    refine' MW.all_mk KX G hmg ?a1 ?l1 ?c_1 ?k1 ?a2 ?l2 ?c_2 ?k2 ?a3 ?l3 ?c_3 ?k3 ?a4 ?l4 ?c_4 ?k4 ?a5 ?l5 ?c_5 ?k5 ?a6 ?l6 ?c_6 ?k6 ?a7 ?l7 ?c_7 ?k7 ?a8 ?l8 ?c_8 ?k8 ?a9 ?l9 ?c_9 ?k9 ?a10 ?l10 ?c_10 ?k10 ?a11 ?l11 ?c_11 ?k11 ?a12 ?l12 ?c_12 ?k12 ?a13 ?l13 ?c_13 ?k13 ?a14 ?l14 ?c_14 ?k14 ?a15 ?l15 ?c_15 ?k15 ?a16 ?l16 ?c_16 ?k16 ?a17 ?l17 ?c_17 ?k17 ?a18 ?l18 ?c_18 ?k18 ?a19 ?l19 ?c_19 ?k19 ?a20 ?l20 ?c_20 ?k20 ?a21 ?l21 ?c_21 ?k21 ?a22 ?l22 ?c_22 ?k22 ?a23 ?l23 ?c_23 ?k23 ?a24 ?l24 ?c_24 ?k24 ?a25 ?l25 ?c_25 ?k25 ?a26 ?l26 ?c_26 ?k26 ?a27 ?l27 ?c_27 ?k27 ?a28 ?l28 ?c_28 ?k28 ?a29 ?l29 ?c_29 ?k29 ?t3 ?u3 ?n3 ?t4 ?u4 ?n4 ?aL ?iL ?jL ?lL ?cL ?kL ?pgL ?hdL ?poL ?saL ?mkL ?kcL ?nRL ?zTEXT ?zSHOW ?zNUMBER ?zSELECT ?zOTHER ?y_any ?y_all ?y_list ?y_isinstance ?y_str ?y_dict ?y_len ?y_int ?y_range ?y_tuple ?y_super ?aC0 ?xC0 ?fC0 ?eC0 ?hC0 ?tC0 ?spn ?tkn ?no3 ?htop ?aC1 ?xC1 ?rC1 ?saC1 ?nnC1 ?inC1 ?tgC1 ?kC1 ?exC1 ?veC1 ?mcC1 ?moC1 ?tyC1 ?lgC1 ?cgC1 ?ceC1 ?coC1 ?fiC1 ?fmC1 ?gaC1 ?ggC1 ?hdC1 ?clC1 ?s0C1 ?aC2 ?xC2 ?rC2 ?saC2 ?nnC2 ?inC2 ?tgC2 ?kC2 ?exC2 ?veC2 ?mcC2 ?moC2 ?tyC2 ?lgC2 ?cgC2 ?ceC2 ?coC2 ?fiC2 ?fmC2 ?gaC2 ?ggC2 ?hdC2 ?clC2 ?s0C2 ?q11 ?q21 ?q22
    (case a1 => k_is)
    (case l1 => k_is)
    (case c_1 => k_is)
    (case k1 => k_is)
    (case a2 => k_is)
    (case l2 => k_is)
    (case c_2 => k_is)
    (case k2 => k_is)
    (case a3 => k_is)
    (case l3 => k_is)
    (case c_3 => k_is)
    (case k3 => k_is)
    (case a4 => k_is)
    (case l4 => k_is)
    (case c_4 => k_is)
    (case k4 => k_is)
    (case a5 => k_is)
    (case l5 => k_is)
    (case c_5 => k_is)
    (case k5 => k_is)
    (case a6 => k_is)
    (case l6 => k_is)
    (case c_6 => k_is)
    (case k6 => k_is)
    (case a7 => k_is)
    (case l7 => k_is)
    (case c_7 => k_is)
    (case k7 => k_is)
    (case a8 => k_is)
    (case l8 => k_is)
    (case c_8 => k_is)
    (case k8 => k_is)
    (case a9 => k_is)
    (case l9 => k_is)
    (case c_9 => k_is)
    (case k9 => k_is)
    (case a10 => k_is)
    (case l10 => k_is)
    (case c_10 => k_is)
    (case k10 => k_is)
    (case a11 => k_is)
    (case l11 => k_is)
    (case c_11 => k_is)
    (case k11 => k_is)
    (case a12 => k_is)
    (case l12 => k_is)
    (case c_12 => k_is)
    (case k12 => k_is)
    (case a13 => k_is)
    (case l13 => k_is)
    (case c_13 => k_is)
    (case k13 => k_is)
    (case a14 => k_is)
    (case l14 => k_is)
    (case c_14 => k_is)
    (case k14 => k_is)
    (case a15 => k_is)
    (case l15 => k_is)
    (case c_15 => k_is)
    (case k15 => k_is)
    (case a16 => k_is)
    (case l16 => k_is)
    (case c_16 => k_is)
    (case k16 => k_is)
    (case a17 => k_is)
    (case l17 => k_is)
    (case c_17 => k_is)
    (case k17 => k_is)
    (case a18 => k_is)
    (case l18 => k_is)
    (case c_18 => k_is)
    (case k18 => k_is)
    (case a19 => k_is)
    (case l19 => k_is)
    (case c_19 => k_is)
    (case k19 => k_is)
    (case a20 => k_is)
    (case l20 => k_is)
    (case c_20 => k_is)
    (case k20 => k_is)
    (case a21 => k_is)
    (case l21 => k_is)
    (case c_21 => k_is)
    (case k21 => k_is)
    (case a22 => k_is)
    (case l22 => k_is)
    (case c_22 => k_is)
    (case k22 => k_is)
    (case a23 => k_is)
    (case l23 => k_is)
    (case c_23 => k_is)
    (case k23 => k_is)
    (case a24 => k_is)
    (case l24 => k_is)
    (case c_24 => k_is)
    (case k24 => k_is)
    (case a25 => k_is)
    (case l25 => k_is)
    (case c_25 => k_is)
    (case k25 => k_is)
    (case a26 => k_is)
    (case l26 => k_is)
    (case c_26 => k_is)
    (case k26 => k_is)
    (case a27 => k_is)
    (case l27 => k_is)
    (case c_27 => k_is)
    (case k27 => k_is)
    (case a28 => k_is)
    (case l28 => k_is)
    (case c_28 => k_is)
    (case k28 => k_is)
    (case a29 => k_is)
    (case l29 => k_is)
    (case c_29 => k_is)
    (case k29 => k_is)
    (case t3 => k_is)
    (case u3 => first | rfl | k_is | decide +kernel)
    (case n3 => rfl)
    (case t4 => k_is)
    (case u4 => first | rfl | k_is | decide +kernel)
    (case n4 => rfl)
    (case aL => k_is)
    (case iL => k_is)
    (case jL => k_is)
    (case lL => k_is)
    (case cL => k_is)
    (case kL => k_is)
    (case pgL => k_is)
    (case hdL => k_is)
    (case poL => k_is)
    (case saL => k_is)
    (case mkL => k_is)
    (case kcL => k_is)
    (case nRL => k_is)
    (case zTEXT => k_is)
    (case zSHOW => k_is)
    (case zNUMBER => k_is)
    (case zSELECT => k_is)
    (case zOTHER => k_is)
    (case y_any => k_is)
    (case y_all => k_is)
    (case y_list => k_is)
    (case y_isinstance => k_is)
    (case y_str => k_is)
    (case y_dict => k_is)
    (case y_len => k_is)
    (case y_int => k_is)
    (case y_range => k_is)
    (case y_tuple => k_is)
    (case y_super => k_is)
    (case aC0 => k_is)
    (case xC0 => k_is)
    (case fC0 => k_is)
    (case eC0 => k_is)
    (case hC0 => k_is)
    (case tC0 => k_is)
    (case spn => k_is)
    (case tkn => k_is)
    (case no3 => k_is)
    (case htop => first | rfl | decide +kernel)
    (case aC1 => k_is)
    (case xC1 => k_is)
    (case rC1 => first | rfl | decide +kernel)
    (case saC1 => k_is)
    (case nnC1 => k_is)
    (case inC1 => k_is)
    (case tgC1 => k_is)
    (case kC1 => k_is)
    (case exC1 => k_is)
    (case veC1 => k_is)
    (case mcC1 => k_is)
    (case moC1 => k_is)
    (case tyC1 => k_is)
    (case lgC1 => k_is)
    (case cgC1 => k_is)
    (case ceC1 => k_is)
    (case coC1 => k_is)
    (case fiC1 => first | rfl | k_is | decide +kernel)
    (case fmC1 => first | rfl | decide +kernel | k_is)
    (case gaC1 => k_is)
    (case ggC1 => k_is)
    (case hdC1 => k_is)
    (case clC1 => k_is)
    (case s0C1 => k_is)
    (case aC2 => k_is)
    (case xC2 => k_is)
    (case rC2 => first | rfl | decide +kernel)
    (case saC2 => k_is)
    (case nnC2 => k_is)
    (case inC2 => k_is)
    (case tgC2 => k_is)
    (case kC2 => k_is)
    (case exC2 => k_is)
    (case veC2 => k_is)
    (case mcC2 => k_is)
    (case moC2 => k_is)
    (case tyC2 => k_is)
    (case lgC2 => k_is)
    (case cgC2 => k_is)
    (case ceC2 => k_is)
    (case coC2 => k_is)
    (case fiC2 => first | rfl | k_is | decide +kernel)
    (case fmC2 => first | rfl | decide +kernel | k_is)
    (case gaC2 => k_is)
    (case ggC2 => k_is)
    (case hdC2 => k_is)
    (case clC2 => k_is)
    (case s0C2 => k_is)
    (case q11 => first | rfl | k_is)
    (case q21 => first | k_is | rfl)
    (case q22 => first | rfl | k_is)
