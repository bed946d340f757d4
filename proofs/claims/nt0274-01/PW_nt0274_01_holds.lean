import PyProof.Rows.All
import Wide.All
import OpenK.AllK
import Wide.FinOn
import PySem.Challenge.RW_nt0274_01
set_option linter.all false
set_option maxHeartbeats 4000000
set_option Elab.async false
namespace Nt
open PySem PySem.Spec PyProof.Rows PySem.W

/-- a goal kept out of the way while facts are taken apart -/
theorem cps {G : Prop} (h : ∀ Z : Prop, (G → Z) → Z) : G := h G id
/-- the caller's own place on the stack, and no stranger -/
noncomputable def G0 : PySem.Ctx := ⟨.builtin "claim.caller" {}, none, none, [], none⟩
noncomputable def wp0 {α : Type} (M : Model) (t : Sem α) (Q : α → Shared → Prop) (E : Value → Shared → Prop) (s : Shared) : Prop :=
  ∀ p, Sem.wp M G0 t (fun a _ s' => Q a s') (fun e _ s' => E e s') p s

theorem wp0_mono {α : Type} {M : Model} {t : Sem α} {Q Q' : α → Shared → Prop} {E E' : Value → Shared → Prop} {s : Shared} (h : wp0 M t Q E s)
    (hQ : ∀ a s, Q a s → Q' a s) (hE : ∀ e s, E e s → E' e s) : wp0 M t Q' E' s :=
  fun p => Sem.wp_mono M G0 t (fun a _ s => hQ a s) (fun e _ s => hE e s) p s (h p)

theorem callFrom0 {c : ClaimW} {tree : List Value → Sem Fin} {w : World} {s : Shared} {free : Addr → Prop} {gens : Prop} {kept : Heap → Prop} (hz : s.asleep) (hgens : s.gens = #[])
    (hspec : ∀ args, c.pre args = true → WData.layableAll args = true →
      ∀ ord : List DictEntry → List DictEntry, (∀ l, (ord l).Perm l) →
      ∃ vs s₁, layAllW c.records (classAt s.heap) w.params ord args s = some (vs, s₁) ∧
        wp0 (model c.prog w) (tree vs) (fun fin s' => ∃ f, fin = .done f ∧ (c.Ends s args vs s₁ (.ok f) s' ∧ s'.os = s.os ∧ AllBare s'.gens ∧ kept s'.heap))
          (fun e s' => c.Ends s args vs s₁ (.error e) s' ∧ s'.os = s.os ∧ AllBare s'.gens ∧ kept s'.heap) s₁) :
    c.CallFrom (fun vs => ⟨tree vs, .builtin "claim.caller" {}, default, []⟩) w free gens kept s := by
  intro args hpre hlay ord hord
  refine cps fun Z fin => ?_
  obtain ⟨vs, s₁, hlaid, hcode⟩ := hspec args hpre hlay ord hord
  have hal := layAllW_rest _ _ _ hlaid
  have whole : Sem.wp (model c.prog w) G0 (tree vs) (Sem.finPost (model c.prog w) G0 fun r s' => (c.Ends s args vs s₁ r s' ∧ s'.os = s.os ∧ kept s'.heap) ∧ leftWithCleanup s'.gens = false)
      (fun e _ s' => (c.Ends s args vs s₁ (.error e) s' ∧ s'.os = s.os ∧ kept s'.heap) ∧ leftWithCleanup s'.gens = false) default s₁ := by
    refine Sem.wp_mono _ _ _ (fun fin p' s' h' => ?_) (fun e p' s' h' => ?_) default s₁ (hcode default)
    · obtain ⟨f, rfl, h⟩ := h'
      exact ⟨⟨h.1, h.2.1, h.2.2.2⟩, leftWithCleanup_false_of_bare h.2.2.1⟩
    · exact ⟨⟨h'.1, h'.2.1, h'.2.2.2⟩, leftWithCleanup_false_of_bare h'.2.2.1⟩
  obtain ⟨k, r, s'', s', hsched, hrun, hfo, hcase, hos, hkp⟩ := wp_halts_full (M := model c.prog w) (R := fun r s' => c.Ends s args vs s₁ r s' ∧ s'.os = s.os ∧ kept s'.heap) (Shared.asleep_of_life hal.2.2.2 hz) whole
  obtain ⟨eh, _, _, eo, _⟩ := Shared.forget_eq hfo
  have hcase := hcase.congr eh
  have hkp : kept s'.heap := eh ▸ hkp
  rw [← eo] at hos
  have hlife : s'.heap.life = s.heap.life := (runN_life _ _ _ hrun).trans hal.2.2.2
  refine fin ⟨vs, s₁, hlaid, k, _, s', hsched, ?_, (fun _ i x hx => by rw [hgens] at hx; simp at hx), hkp, by rw [hlife], Shared.rest_eq hos⟩
  clear fin hspec hsched hrun hfo hos hkp hlife whole hcode
  refine cps fun Z fin => ?_
  rcases hcase with ⟨v, e, d⟩ | ⟨e, ob, cls, e', d⟩
  · exact fin (.inl ⟨v, congrArg outcomeOf e, d.1, d.2.1, d.2.2.1, fun b o y _ => d.2.2.2.1 b o y, d.2.2.2.2⟩)
  · exact fin (.inr ⟨e, ob, cls, congrArg outcomeOf e', d.1, d.2.1, d.2.2.1, d.2.2.2.1, fun b o y _ => d.2.2.2.2 b o y⟩)

theorem openAny0 {r : RowW} {run : Value → List Value → Sem Value} {tree : List Value → Sem Fin} {q : Program} {loose defs kps : List Str} {writes : Bool} {Xt : Shared → Bool} {XP : (Str → Option Value) → Heap → Prop} {α : Type} {Yf : Shared → α} {Ya : World → α} {YP : World → Heap → Prop} {N : Nat}
    (left : LeftO r.prog q loose Xt Yf Ya N) (hY : ∀ w s, Yf s = Ya w → YP w s.heap) (hYk : ∀ w h h', YP w h → (∀ b o, h.get? b = some o → h'.get? b = some o) → YP w h') (hX : ∀ s, Xt s = true → XP (s.heap.nsMap mainGlobals) s.heap) (hXk : ∀ mg h h', XP mg h → (∀ b o, h.get? b = some o → h'.get? b = some o) → XP mg h')
    (hRf : ∀ s, Xt s = true → RecFacts r.records s.heap) (hwr : (!writes || r.records.isEmpty) = true) (ok : (chainsOk q && opensWell r.prog && (frees r && r.within.isEmpty)) = true) (hb : r.prog.bare) (hw : r.promised)
    (ht : ∀ vs (w : World) (s : Shared) mg f (Q : Fin → Shared → Prop) (E : Value → Shared → Prop), s.heap.Ns mainGlobals mg → mg r.name = some f → wp0 (model r.prog w) (run f vs) (fun v s' => Q (.done (.ret v)) s') E s → wp0 (model r.prog w) (tree vs) Q E s)
    (pin : ∀ w s, s.heap.isNs mainGlobals = true → Ground q loose [] XP w s (s.heap.nsMap mainGlobals) (s.heap.nsMap builtinsNs) s.heap → ∀ n ∈ defs, isTheDefsW r.prog s.heap n)
    (call : ∀ (w : World) (s₀ s₁ : Shared) (mg mb : Str → Option Value), Ground q loose r.records XP w s₀ mg mb s₁.heap → YP w s₁.heap → ∀ (args : List WData) (vs : List Value) (as : List Addr),
      r.claim.pre args = true → WData.layableAll args = true → Laid r.records w s₀ s₁ args vs as → sysModules < s₀.heap.objs.size → ∃ f, mg r.name = some f ∧
        wp0 (model r.prog w) (run f vs) (fun v s' => GoodWG r.claim (classAt s₀.heap) (ExcName.means s₀.heap) args s₁ (.ok (.ret v)) s')
          (fun e s' => GoodWG r.claim (classAt s₀.heap) (ExcName.means s₀.heap) args s₁ (.error e) s') s₁) : r.claim.HoldsOpenBy (fun vs => ⟨tree vs, .builtin "claim.caller" {}, default, []⟩) defs kps writes := by
  obtain ⟨ok, k5⟩ := Bool.and_eq_true_iff.mp ok
  obtain ⟨hch, o1⟩ := Bool.and_eq_true_iff.mp ok
  obtain ⟨k5, k6⟩ := Bool.and_eq_true_iff.mp k5
  obtain ⟨hsame, hu, ha, hap, hm⟩ := frees_parts k5
  refine ⟨⟨hb, o1, by show r.makers.map _ = []; rw [hm]; rfl⟩, hw.witness, fun w => ⟨(left.behind hX hch w).1, fun s' hs' => ?_⟩⟩
  refine cps fun Z fin => ?_
  obtain ⟨s₀, hf, hg0, s, hT, hz, hgens, hg, G00, y⟩ := (left.behind (XP := fun mg h => XP mg h ∧ RecFacts r.records h) (fun s hs => ⟨hX s hs, hRf s hs⟩) hch w).2 s' hs'
  have G1 : Ground q loose [] XP w s (s.heap.nsMap mainGlobals) (s.heap.nsMap builtinsNs) s.heap := ⟨G00.T, G00.B, G00.D, G00.TE, G00.TD, G00.W, G00.X.1, G00.cls, G00.has, G00.apart, G00.once, G00.K⟩
  have RF := G00.X.2
  have hT' := hT
  refine fin ⟨s₀, hf, hg0, s, hT, pin w s hg G1, RF.1, RF.2.1, ?_⟩
  clear fin
  have hgens : s.gens = #[] := Array.eq_empty_of_size_eq_zero (beq_iff_eq.mp hgens)
  have G : Ground q loose r.records XP w s _ _ s.heap := RF.ground G1
  refine callFrom0 (c := r.claim) hz hgens fun args hpre hlay ord hord => ?_
  refine cps fun Z fin => ?_
  obtain ⟨⟨vs, s₁⟩, hlaid⟩ := Option.isSome_iff_exists.mp (layAllW_isSome (P := w.params) (ord := ord) G.has args r.args s (pre_splitW hpre).1)
  have keeps := layAllW_keeps _ _ _ hlaid
  have hal := layAllW_rest _ _ _ hlaid
  obtain ⟨as, hrd, hin, hold⟩ := reads_layAllW hord _ _ _ hlaid hlay s₁.heap (fun _ _ e => e)
  have L : Laid r.records w s s₁ args vs as := ⟨⟨ord, hord, hlaid⟩, hrd, hin, hold, keeps, hal.1.trans hgens, hal.2.2.1⟩
  have G₁ := G.keeps hXk keeps
  obtain ⟨f, hf, h⟩ := call w s s₁ _ _ G₁ (hYk _ _ _ (hY w s y) keeps) args vs as hpre hlay L G.low
  have hi := ident_freeW hu ha hap
  have hwi : r.claim.within = [] := List.isEmpty_iff.mp k6
  refine fin ⟨vs, s₁, hlaid, ht vs w s₁ _ f _ _ G₁.T.g hf (wp0_mono h (fun v s' g => ?_) fun e s' g => ?_)⟩
  · have z := g.laid (c := r.claim) hsame hwi hi L
    exact ⟨_, rfl, z.1, z.2.1, z.2.2, fun q => ⟨namesKept_of hT' hg kps keeps g.2.1.old, noTable hwr q⟩⟩
  · have z := g.laid (c := r.claim) hsame hwi hi L
    exact ⟨z.1, z.2.1, z.2.2, fun q => ⟨namesKept_of hT' hg kps keeps g.2.1.old, noTable hwr q⟩⟩

noncomputable abbrev Walk0 (q : Program) (loose : List Str) (XP : (Str → Option Value) → Heap → Prop) (YP : World → Heap → Prop) (r : RowW) (d : DefRec) (kwd : List (Str × Expr)) : Prop :=
  ∀ (w : World) (s₀ s₁ : Shared) (mg mb : Str → Option Value), Ground q loose r.records XP w s₀ mg mb s₁.heap → YP w s₁.heap → ∀ (a : Addr) (o : Obj) (pm cd doc dV kV : Value), s₁.heap.get? a = some o →
    o.data = .func { Calls.docDef d.name d.params d.body d.scope pm cd doc with defaults := dV, kwdefaults := kV } → s₁.heap.CodeRec cd d.name → Dflts mg s₁.heap d.params kwd dV kV → mg d.name = some (.ref a) → s₁.gens = #[] →
    ∀ (args : List WData) (vals : List Value) (as : List Addr), r.claim.pre args = true → WData.layableAll args = true → ReadsAllW r.records (classAt s₀.heap) s₁.heap vals args as → WellAll w.params s₁.heap vals args → (∀ a ∈ as, (a == sysModules) = false) →
      wp0 (model r.prog w) (PySem.call (.ref a) vals) (fun v s' => GoodWG r.claim (classAt s₀.heap) (ExcName.means s₀.heap) args s₁ (.ok (.ret v)) s')
        (fun e s' => GoodWG r.claim (classAt s₀.heap) (ExcName.means s₀.heap) args s₁ (.error e) s') s₁

/-- a head for the caller's own place alone: the library's head tactic takes it by its name -/
theorem PySem.W.holds_open {r : OpenRow} {q : Program} {loose : List Str} {Xt : Shared → Bool} {XP : (Str → Option Value) → Heap → Prop} {α : Type} {Yf : Shared → α} {Ya : World → α} {YP : World → Heap → Prop} {d : DefRec} {kwd : List (Str × Expr)} {N : Nat}
    (left : LeftO r.prog q loose Xt Yf Ya N) (hY : ∀ w s, Yf s = Ya w → YP w s.heap) (hYk : ∀ w h h', YP w h → (∀ b o, h.get? b = some o → h'.get? b = some o) → YP w h')
    (hX : ∀ s, Xt s = true → XP (s.heap.nsMap mainGlobals) s.heap) (hXk : ∀ mg h h', XP mg h → (∀ b o, h.get? b = some o → h'.get? b = some o) → XP mg h')
    (hdef : defOf q r.name = some (d, kwd)) (hp : r.prog.theDef r.name = some (d.params, d.body, d.scope)) (hk : kwWritten? d.params.kwonlyargs d.params.kw_defaults = some kwd) (hRf : ∀ s, Xt s = true → RecFacts r.records s.heap) (hwr : (!r.writes || r.records.isEmpty) = true)
    (k1 : r.wellSaid = true) (ok : (chainsOk q && opensWell r.prog && (frees r.toRowW && r.within.isEmpty)) = true) (hb : r.prog.bare) (hw : r.toRowW.promised)
    (call : Walk0 q loose XP YP r.toRowW d kwd) : r.Holds := by
  refine ⟨k1, hw, openAny0 (r := r.toRowW) (run := fun f vs => PySem.call f vs) (tree := fun vs => do match ← nsGet mainNs r.name with
      | some f => do ret (← PySem.call f vs)
      | none => unsupported "claim.caller:no-such-global") left hY hYk hX hXk hRf hwr ok hb hw
    (fun vs w s mg f Q E hg hf h p => ?_)
    (fun w s hg G n hn => ?_) fun w s₀ s₁ mg mb G Y args vs as hpre hlay L low => ?_⟩
  · rw [Sem.wp_bind']
    refine (Sem.wp_nsGet _ _ _ p s hg r.name _).mpr ?_
    rw [hf]
    show Sem.wp _ _ (PySem.call f vs >>= fun v => ret v) _ _ _ _
    rw [Sem.wp_bind']
    exact Sem.wp_mono _ _ _ (fun v p' s' x => x) (fun _ _ _ x => x) p s (h p)
  · obtain rfl : n = r.name := by split at hn <;> simp_all
    exact pinned_of_view hg G hdef hp hk
  · obtain ⟨a, o, pm, cd, doc, dV, kV, h1, h2, h3, h4, h5⟩ := G.fn hdef
    exact ⟨.ref a, h1, call w s₀ s₁ mg mb G Y a o pm cd doc dV kV h2 h3 h4 h5 (defOf_name hdef ▸ h1) L.gens args vs as hpre hlay L.reads L.well (L.low low)⟩

end Nt

set_option Elab.async false
set_option maxRecDepth 100000
open PySem PySem.W PyProof.Rows PySem.Calls
namespace Nt
set_option compiler.extract_closed false
noncomputable abbrev P0 : Program := PySem.Challenge.pw_nt0274_01
noncomputable def nop : Stmt := .Pass default
noncomputable def St (i : Nat) : Stmt := (P0.main.body[i]?).getD nop
noncomputable def cbody : Stmt → List Stmt
  | .ClassDef _ _ _ b _ _ _ _ _ _ _ => b
  | _ => []
/-- a method of a class of the text -/
noncomputable def cm (i j : Nat) : Stmt := ((cbody (St i))[j]?).getD nop
noncomputable def fName : Stmt → Str
  | .FunctionDef n _ _ _ _ _ _ _ _ _ => n
  | _ => Str.empty
noncomputable def fParams : Stmt → Arguments
  | .FunctionDef _ p _ _ _ _ _ _ _ _ => p
  | _ => ⟨[], [], none, [], [], none, []⟩
noncomputable def fBody : Stmt → List Stmt
  | .FunctionDef _ _ b _ _ _ _ _ _ _ => b
  | _ => []
noncomputable def fScope : Stmt → Scope
  | .FunctionDef _ _ _ _ _ _ s _ _ _ => s
  | _ => ⟨.function, [], false, false, []⟩
noncomputable def fnO (s : Stmt) (q : String) (dV pm : Value) (c : Addr) : Obj := { cls := .type "function", data := .func (fnOf (fName s) (Str.ofString q) (fParams s) (fBody s) (fScope s) dV .none .none pm none (.ref c) .none) }
noncomputable def dct (es : List DictEntry) (n : Nat) : Obj := { cls := .type "dict", data := .dict es.toArray n }
noncomputable def e (P : Params) (x : String) (n : Tok) (v : Value) : DictEntry := { hash := PyData.keyHash P (Str.ofString x), key := .str (Str.ofString x) n, val := v }
/-- what of the text's own objects the proof looks at -/
noncomputable def KK (P : Params) : Frag := [
  (3, dct [e P "__name__" 165 (Value.str (Str.ofString "law_nt0274_01") 485), e P "__doc__" 166 (Value.none), e P "__package__" 167 (Value.none), e P "__loader__" 168 (Value.builtin "__main__.__loader__#opaque"), e P "__spec__" 169 (Value.none), e P "__annotations__" 170 (Value.ref 6), e P "__builtins__" 171 (Value.ref 4), e P "__file__" 173 (Value.str (Str.ofString "/claim/cut.py") 172), e P "__cached__" 174 (Value.none), e P "NOUGHT_SIGN" 190 (Value.int 48 189), e P "GitError" 220 (Value.ref 32), e P "BadObject" 236 (Value.ref 45), e P "BadBits" 252 (Value.ref 57), e P "BadDelta" 268 (Value.ref 69), e P "BadPatch" 284 (Value.ref 81), e P "text_of" 290 (Value.ref 88), e P "octets_of" 296 (Value.ref 93), e P "big_endian" 302 (Value.ref 98), e P "be32" 309 (Value.ref 105), e P "at_big_endian" 320 (Value.ref 112), e P "at_be32" 328 (Value.ref 119), e P "put_size" 336 (Value.ref 126), e P "at_size" 347 (Value.ref 133), e P "number_by" 358 (Value.ref 140), e P "number_of" 365 (Value.ref 147), e P "FEED" 367 (Value.bytes #[10] 366), e P "SIGNS_85" 371 (Value.bytes #[48, 49, 50, 51, 52, 53, 54, 55, 56, 57, 65, 66, 67, 68, 69, 70, 71, 72, 73, 74, 75, 76, 77, 78, 79, 80, 81, 82, 83, 84, 85, 86, 87, 88, 89, 90, 97, 98, 99, 100, 101, 102, 103, 104, 105, 106, 107, 108, 109, 110, 111, 112, 113, 114, 115, 116, 117, 118, 119, 120, 121, 122, 33, 35, 36, 37, 38, 40, 41, 42, 43, 45, 59, 60, 61, 62, 63, 64, 94, 95, 96, 123, 124, 125, 126] 370), e P "ROW_85" 373 (Value.int 52 372), e P "decimal" 380 (Value.ref 154), e P "row_85" 392 (Value.ref 161), e P "octets_of_row_85" 406 (Value.ref 168), e P "write_binary" 412 (Value.ref 173), e P "read_binary" 426 (Value.ref 180), e P "patch_row" 433 (Value.ref 187), e P "told_number" 442 (Value.ref 194), e P "StoredCodec" 484 (Value.ref 219), e P "_law_signs" 488 (Value.bytes #[48, 49, 50, 51, 52, 53, 54, 55, 56, 57, 65, 66, 67, 68, 69, 70, 71, 72, 73, 74, 75, 76, 77, 78, 79, 80, 81, 82, 83, 84, 85, 86, 87, 88, 89, 90, 97, 98, 99, 100, 101, 102, 103, 104, 105, 106, 107, 108, 109, 110, 111, 112, 113, 114, 115, 116, 117, 118, 119, 120, 121, 122, 33, 35, 36, 37, 38, 40, 41, 42, 43, 45, 59, 60, 61, 62, 63, 64, 94, 95, 96, 123, 124, 125, 126] 487), e P "_law_letters" 490 (Value.bytes #[65, 66, 67, 68, 69, 70, 71, 72, 73, 74, 75, 76, 77, 78, 79, 80, 81, 82, 83, 84, 85, 86, 87, 88, 89, 90, 97, 98, 99, 100, 101, 102, 103, 104, 105, 106, 107, 108, 109, 110, 111, 112, 113, 114, 115, 116, 117, 118, 119, 120, 121, 122] 489), e P "_law_octets" 496 (Value.ref 228), e P "_law_five" 507 (Value.ref 235), e P "_law_written" 521 (Value.ref 242), e P "_law_bare" 528 (Value.ref 249), e P "_law_number" 534 (Value.ref 254), e P "_law_part" 547 (Value.ref 261), e P "_law_unpacked" 557 (Value.ref 268), e P "_law_due" 563 (Value.ref 273), e P "_law_told" 573 (Value.ref 280), e P "_law_bent" 589 (Value.ref 287), e P "law" 595 (Value.ref 292)] 49),
  (22, { cls := Value.type "tuple", data := Data.seq #[Value.str (Str.ofString "") 203] }),
  (28, { cls := .type "code", data := .fields #[Value.str (Str.ofString "__init__") 204, Value.str (Str.ofString "GitError.__init__") 205, Value.str (Str.ofString "/claim/cut.py") 206, Value.int 5 0, Value.int 2 0, Value.int 0 0, Value.int 0 0, Value.int 3 0, Value.ref 23, Value.bool true, Value.int 181 0, Value.ref 24, Value.none, Value.ref 25, Value.ref 26, Value.ref 27, Value.int 209 0, Value.int 5 0, Value.str (Str.ofString "/claim/cut.py") 210] }),
  (29, fnO (cm 2 0) "GitError.__init__" (Value.ref 22) (.str (Str.ofString "gitcore.base") 187) 28),
  (31, dct [e P "__module__" 198 (Value.str (Str.ofString "gitcore.base") 187), e P "__firstlineno__" 202 (Value.int 3 201), e P "__init__" 211 (Value.ref 29), e P "__static_attributes__" 213 (Value.ref 30), e P "__weakref__" 215 (Value.ref 33), e P "__doc__" 216 (Value.none)] 3),
  (32, { cls := Value.type "type", data := Data.cls { name := Str.ofString "GitError", bases := [Value.type "Exception"], mro := [Value.ref 32, Value.type "Exception", Value.type "BaseException", Value.type "object"], ns := 31, qualname := Str.ofString "GitError", subclasses := [Value.ref 45, Value.ref 57, Value.ref 69, Value.ref 81] }, slots := #[some (Value.ref 15), none, some (Value.str (Str.ofString "GitError") 191), some (Value.str (Str.ofString "GitError") 199), some (Value.builtin "Exception.__new__"), some (Value.bool true)] }),
  (56, dct [e P "__module__" 244 (Value.str (Str.ofString "gitcore.base") 187), e P "__firstlineno__" 248 (Value.int 9 247), e P "__static_attributes__" 249 (Value.ref 55), e P "__doc__" 250 (Value.none)] 2),
  (57, { cls := Value.type "type", data := Data.cls { name := Str.ofString "BadBits", bases := [Value.ref 32], mro := [Value.ref 57, Value.ref 32, Value.type "Exception", Value.type "BaseException", Value.type "object"], ns := 56, qualname := Str.ofString "BadBits" }, slots := #[some (Value.ref 48), none, some (Value.str (Str.ofString "BadBits") 237), some (Value.str (Str.ofString "BadBits") 245), some (Value.builtin "Exception.__new__"), some (Value.bool true)] }),
  (68, dct [e P "__module__" 260 (Value.str (Str.ofString "gitcore.base") 187), e P "__firstlineno__" 264 (Value.int 11 263), e P "__static_attributes__" 265 (Value.ref 67), e P "__doc__" 266 (Value.none)] 2),
  (69, { cls := Value.type "type", data := Data.cls { name := Str.ofString "BadDelta", bases := [Value.ref 32], mro := [Value.ref 69, Value.ref 32, Value.type "Exception", Value.type "BaseException", Value.type "object"], ns := 68, qualname := Str.ofString "BadDelta" }, slots := #[some (Value.ref 60), none, some (Value.str (Str.ofString "BadDelta") 253), some (Value.str (Str.ofString "BadDelta") 261), some (Value.builtin "Exception.__new__"), some (Value.bool true)] }),
  (80, dct [e P "__module__" 276 (Value.str (Str.ofString "gitcore.base") 187), e P "__firstlineno__" 280 (Value.int 13 279), e P "__static_attributes__" 281 (Value.ref 79), e P "__doc__" 282 (Value.none)] 2),
  (81, { cls := Value.type "type", data := Data.cls { name := Str.ofString "BadPatch", bases := [Value.ref 32], mro := [Value.ref 81, Value.ref 32, Value.type "Exception", Value.type "BaseException", Value.type "object"], ns := 80, qualname := Str.ofString "BadPatch" }, slots := #[some (Value.ref 72), none, some (Value.str (Str.ofString "BadPatch") 269), some (Value.str (Str.ofString "BadPatch") 277), some (Value.builtin "Exception.__new__"), some (Value.bool true)] }),
  (87, { cls := .type "code", data := .fields #[Value.str (Str.ofString "text_of") 285, Value.str (Str.ofString "text_of") 286, Value.str (Str.ofString "/claim/cut.py") 287, Value.int 15 0, Value.int 1 0, Value.int 0 0, Value.int 0 0, Value.int 3 0, Value.ref 84, Value.bool true, Value.int 181 0, Value.ref 85, Value.none, Value.none, Value.none, Value.ref 86, Value.int 288 0, Value.int 15 0, Value.str (Str.ofString "/claim/cut.py") 289] }),
  (88, fnO (St 7) "text_of" (Value.none) (.str (Str.ofString "gitcore.base") 187) 87),
  (92, { cls := .type "code", data := .fields #[Value.str (Str.ofString "octets_of") 291, Value.str (Str.ofString "octets_of") 292, Value.str (Str.ofString "/claim/cut.py") 293, Value.int 17 0, Value.int 1 0, Value.int 0 0, Value.int 0 0, Value.int 3 0, Value.ref 89, Value.bool true, Value.int 181 0, Value.ref 90, Value.none, Value.none, Value.none, Value.ref 91, Value.int 294 0, Value.int 17 0, Value.str (Str.ofString "/claim/cut.py") 295] }),
  (93, fnO (St 8) "octets_of" (Value.none) (.str (Str.ofString "gitcore.base") 187) 92),
  (97, { cls := .type "code", data := .fields #[Value.str (Str.ofString "big_endian") 297, Value.str (Str.ofString "big_endian") 298, Value.str (Str.ofString "/claim/cut.py") 299, Value.int 23 0, Value.int 2 0, Value.int 0 0, Value.int 0 0, Value.int 3 0, Value.ref 94, Value.bool true, Value.int 181 0, Value.ref 95, Value.none, Value.none, Value.none, Value.ref 96, Value.int 300 0, Value.int 23 0, Value.str (Str.ofString "/claim/cut.py") 301] }),
  (98, fnO (St 9) "big_endian" (Value.none) (.str (Str.ofString "gitcore.base") 187) 97),
  (104, { cls := .type "code", data := .fields #[Value.str (Str.ofString "be32") 303, Value.str (Str.ofString "be32") 304, Value.str (Str.ofString "/claim/cut.py") 305, Value.int 25 0, Value.int 1 0, Value.int 0 0, Value.int 0 0, Value.int 3 0, Value.ref 99, Value.bool true, Value.int 181 0, Value.ref 100, Value.none, Value.ref 101, Value.ref 102, Value.ref 103, Value.int 307 0, Value.int 25 0, Value.str (Str.ofString "/claim/cut.py") 308] }),
  (105, fnO (St 10) "be32" (Value.none) (.str (Str.ofString "gitcore.base") 187) 104),
  (111, { cls := .type "code", data := .fields #[Value.str (Str.ofString "at_big_endian") 310, Value.str (Str.ofString "at_big_endian") 311, Value.str (Str.ofString "/claim/cut.py") 312, Value.int 27 0, Value.int 3 0, Value.int 0 0, Value.int 0 0, Value.int 3 0, Value.ref 106, Value.bool true, Value.int 181 0, Value.ref 107, Value.none, Value.ref 108, Value.ref 109, Value.ref 110, Value.int 318 0, Value.int 27 0, Value.str (Str.ofString "/claim/cut.py") 319] }),
  (112, fnO (St 11) "at_big_endian" (Value.none) (.str (Str.ofString "gitcore.base") 187) 111),
  (118, { cls := .type "code", data := .fields #[Value.str (Str.ofString "at_be32") 321, Value.str (Str.ofString "at_be32") 322, Value.str (Str.ofString "/claim/cut.py") 323, Value.int 34 0, Value.int 2 0, Value.int 0 0, Value.int 0 0, Value.int 3 0, Value.ref 113, Value.bool true, Value.int 181 0, Value.ref 114, Value.none, Value.ref 115, Value.ref 116, Value.ref 117, Value.int 326 0, Value.int 34 0, Value.str (Str.ofString "/claim/cut.py") 327] }),
  (119, fnO (St 12) "at_be32" (Value.none) (.str (Str.ofString "gitcore.base") 187) 118),
  (125, { cls := .type "code", data := .fields #[Value.str (Str.ofString "put_size") 329, Value.str (Str.ofString "put_size") 330, Value.str (Str.ofString "/claim/cut.py") 331, Value.int 36 0, Value.int 1 0, Value.int 0 0, Value.int 0 0, Value.int 3 0, Value.ref 120, Value.bool true, Value.int 181 0, Value.ref 121, Value.none, Value.ref 122, Value.ref 123, Value.ref 124, Value.int 334 0, Value.int 36 0, Value.str (Str.ofString "/claim/cut.py") 335] }),
  (126, fnO (St 13) "put_size" (Value.none) (.str (Str.ofString "gitcore.base") 187) 125),
  (132, { cls := .type "code", data := .fields #[Value.str (Str.ofString "at_size") 337, Value.str (Str.ofString "at_size") 338, Value.str (Str.ofString "/claim/cut.py") 339, Value.int 43 0, Value.int 2 0, Value.int 0 0, Value.int 0 0, Value.int 3 0, Value.ref 127, Value.bool true, Value.int 181 0, Value.ref 128, Value.none, Value.ref 129, Value.ref 130, Value.ref 131, Value.int 345 0, Value.int 43 0, Value.str (Str.ofString "/claim/cut.py") 346] }),
  (133, fnO (St 14) "at_size" (Value.none) (.str (Str.ofString "gitcore.base") 187) 132),
  (139, { cls := .type "code", data := .fields #[Value.str (Str.ofString "number_by") 348, Value.str (Str.ofString "number_by") 349, Value.str (Str.ofString "/claim/cut.py") 350, Value.int 55 0, Value.int 2 0, Value.int 0 0, Value.int 0 0, Value.int 3 0, Value.ref 134, Value.bool true, Value.int 181 0, Value.ref 135, Value.none, Value.ref 136, Value.ref 137, Value.ref 138, Value.int 356 0, Value.int 55 0, Value.str (Str.ofString "/claim/cut.py") 357] }),
  (140, fnO (St 15) "number_by" (Value.none) (.str (Str.ofString "gitcore.base") 187) 139),
  (146, { cls := .type "code", data := .fields #[Value.str (Str.ofString "number_of") 359, Value.str (Str.ofString "number_of") 360, Value.str (Str.ofString "/claim/cut.py") 361, Value.int 65 0, Value.int 1 0, Value.int 0 0, Value.int 0 0, Value.int 3 0, Value.ref 141, Value.bool true, Value.int 181 0, Value.ref 142, Value.none, Value.ref 143, Value.ref 144, Value.ref 145, Value.int 363 0, Value.int 65 0, Value.str (Str.ofString "/claim/cut.py") 364] }),
  (147, fnO (St 16) "number_of" (Value.none) (.str (Str.ofString "gitcore.base") 187) 146),
  (153, { cls := .type "code", data := .fields #[Value.str (Str.ofString "decimal") 374, Value.str (Str.ofString "decimal") 375, Value.str (Str.ofString "/claim/cut.py") 376, Value.int 73 0, Value.int 1 0, Value.int 0 0, Value.int 0 0, Value.int 3 0, Value.ref 148, Value.bool true, Value.int 181 0, Value.ref 149, Value.none, Value.ref 150, Value.ref 151, Value.ref 152, Value.int 378 0, Value.int 73 0, Value.str (Str.ofString "/claim/cut.py") 379] }),
  (154, fnO (St 21) "decimal" (Value.none) (.str (Str.ofString "gitcore.patchtexts") 368) 153),
  (160, { cls := .type "code", data := .fields #[Value.str (Str.ofString "row_85") 381, Value.str (Str.ofString "row_85") 382, Value.str (Str.ofString "/claim/cut.py") 383, Value.int 75 0, Value.int 1 0, Value.int 0 0, Value.int 0 0, Value.int 3 0, Value.ref 155, Value.bool true, Value.int 181 0, Value.ref 156, Value.none, Value.ref 157, Value.ref 158, Value.ref 159, Value.int 390 0, Value.int 75 0, Value.str (Str.ofString "/claim/cut.py") 391] }),
  (161, fnO (St 22) "row_85" (Value.none) (.str (Str.ofString "gitcore.patchtexts") 368) 160),
  (167, { cls := .type "code", data := .fields #[Value.str (Str.ofString "octets_of_row_85") 393, Value.str (Str.ofString "octets_of_row_85") 394, Value.str (Str.ofString "/claim/cut.py") 395, Value.int 85 0, Value.int 1 0, Value.int 0 0, Value.int 0 0, Value.int 3 0, Value.ref 162, Value.bool true, Value.int 181 0, Value.ref 163, Value.none, Value.ref 164, Value.ref 165, Value.ref 166, Value.int 404 0, Value.int 85 0, Value.str (Str.ofString "/claim/cut.py") 405] }),
  (168, fnO (St 23) "octets_of_row_85" (Value.none) (.str (Str.ofString "gitcore.patchtexts") 368) 167),
  (172, { cls := .type "code", data := .fields #[Value.str (Str.ofString "write_binary") 407, Value.str (Str.ofString "write_binary") 408, Value.str (Str.ofString "/claim/cut.py") 409, Value.int 102 0, Value.int 2 0, Value.int 0 0, Value.int 0 0, Value.int 3 0, Value.ref 169, Value.bool true, Value.int 181 0, Value.ref 170, Value.none, Value.none, Value.none, Value.ref 171, Value.int 410 0, Value.int 102 0, Value.str (Str.ofString "/claim/cut.py") 411] }),
  (173, fnO (St 24) "write_binary" (Value.none) (.str (Str.ofString "gitcore.patchtexts") 368) 172),
  (179, { cls := .type "code", data := .fields #[Value.str (Str.ofString "read_binary") 413, Value.str (Str.ofString "read_binary") 414, Value.str (Str.ofString "/claim/cut.py") 415, Value.int 107 0, Value.int 3 0, Value.int 0 0, Value.int 0 0, Value.int 3 0, Value.ref 174, Value.bool true, Value.int 181 0, Value.ref 175, Value.none, Value.ref 176, Value.ref 177, Value.ref 178, Value.int 424 0, Value.int 107 0, Value.str (Str.ofString "/claim/cut.py") 425] }),
  (180, fnO (St 25) "read_binary" (Value.none) (.str (Str.ofString "gitcore.patchtexts") 368) 179),
  (186, { cls := .type "code", data := .fields #[Value.str (Str.ofString "patch_row") 427, Value.str (Str.ofString "patch_row") 428, Value.str (Str.ofString "/claim/cut.py") 429, Value.int 126 0, Value.int 1 0, Value.int 0 0, Value.int 0 0, Value.int 3 0, Value.ref 181, Value.bool true, Value.int 181 0, Value.ref 182, Value.none, Value.ref 183, Value.ref 184, Value.ref 185, Value.int 431 0, Value.int 126 0, Value.str (Str.ofString "/claim/cut.py") 432] }),
  (187, fnO (St 26) "patch_row" (Value.none) (.str (Str.ofString "gitcore.patchtexts") 368) 186),
  (193, { cls := .type "code", data := .fields #[Value.str (Str.ofString "told_number") 434, Value.str (Str.ofString "told_number") 435, Value.str (Str.ofString "/claim/cut.py") 436, Value.int 128 0, Value.int 2 0, Value.int 0 0, Value.int 0 0, Value.int 3 0, Value.ref 188, Value.bool true, Value.int 181 0, Value.ref 189, Value.none, Value.ref 190, Value.ref 191, Value.ref 192, Value.int 440 0, Value.int 128 0, Value.str (Str.ofString "/claim/cut.py") 441] }),
  (194, fnO (St 27) "told_number" (Value.none) (.str (Str.ofString "gitcore.patchtexts") 368) 193),
  (207, { cls := .type "code", data := .fields #[Value.str (Str.ofString "pack") 457, Value.str (Str.ofString "StoredCodec.pack") 458, Value.str (Str.ofString "/claim/cut.py") 459, Value.int 136 0, Value.int 2 0, Value.int 0 0, Value.int 0 0, Value.int 3 0, Value.ref 202, Value.bool true, Value.int 181 0, Value.ref 203, Value.none, Value.ref 204, Value.ref 205, Value.ref 206, Value.int 462 0, Value.int 136 0, Value.str (Str.ofString "/claim/cut.py") 463] }),
  (208, fnO (cm 29 0) "StoredCodec.pack" (Value.none) (.str (Str.ofString "gitcore.deflate") 443) 207),
  (209, { cls := Value.type "tuple", data := Data.seq #[Value.int 0 465] }),
  (215, { cls := .type "code", data := .fields #[Value.str (Str.ofString "unpack") 466, Value.str (Str.ofString "StoredCodec.unpack") 467, Value.str (Str.ofString "/claim/cut.py") 468, Value.int 139 0, Value.int 3 0, Value.int 0 0, Value.int 0 0, Value.int 3 0, Value.ref 210, Value.bool true, Value.int 181 0, Value.ref 211, Value.none, Value.ref 212, Value.ref 213, Value.ref 214, Value.int 474 0, Value.int 139 0, Value.str (Str.ofString "/claim/cut.py") 475] }),
  (216, fnO (cm 29 1) "StoredCodec.unpack" (Value.ref 209) (.str (Str.ofString "gitcore.deflate") 443) 215),
  (218, dct [e P "__module__" 452 (Value.str (Str.ofString "gitcore.deflate") 443), e P "__firstlineno__" 456 (Value.int 134 455), e P "pack" 464 (Value.ref 208), e P "unpack" 476 (Value.ref 216), e P "__static_attributes__" 477 (Value.ref 217), e P "__dict__" 479 (Value.ref 220), e P "__weakref__" 481 (Value.ref 221), e P "__doc__" 482 (Value.none)] 4),
  (219, { cls := Value.type "type", data := Data.cls { name := Str.ofString "StoredCodec", bases := [Value.type "object"], mro := [Value.ref 219, Value.type "object"], ns := 218, qualname := Str.ofString "StoredCodec" }, slots := #[none, none, some (Value.str (Str.ofString "StoredCodec") 445), some (Value.str (Str.ofString "StoredCodec") 453), some (Value.builtin "object.__new__"), some (Value.bool true)] }),
  (227, { cls := .type "code", data := .fields #[Value.str (Str.ofString "_law_octets") 491, Value.str (Str.ofString "_law_octets") 492, Value.str (Str.ofString "/claim/cut.py") 493, Value.int 150 0, Value.int 1 0, Value.int 0 0, Value.int 0 0, Value.int 3 0, Value.ref 224, Value.bool true, Value.int 181 0, Value.ref 225, Value.none, Value.none, Value.none, Value.ref 226, Value.int 494 0, Value.int 150 0, Value.str (Str.ofString "/claim/cut.py") 495] }),
  (228, fnO (St 33) "_law_octets" (Value.none) (.str (Str.ofString "law_nt0274_01") 485) 227),
  (234, { cls := .type "code", data := .fields #[Value.str (Str.ofString "_law_five") 497, Value.str (Str.ofString "_law_five") 498, Value.str (Str.ofString "/claim/cut.py") 499, Value.int 152 0, Value.int 1 0, Value.int 0 0, Value.int 0 0, Value.int 3 0, Value.ref 229, Value.bool true, Value.int 181 0, Value.ref 230, Value.none, Value.ref 231, Value.ref 232, Value.ref 233, Value.int 505 0, Value.int 152 0, Value.str (Str.ofString "/claim/cut.py") 506] }),
  (235, fnO (St 34) "_law_five" (Value.none) (.str (Str.ofString "law_nt0274_01") 485) 234),
  (241, { cls := .type "code", data := .fields #[Value.str (Str.ofString "_law_written") 508, Value.str (Str.ofString "_law_written") 509, Value.str (Str.ofString "/claim/cut.py") 510, Value.int 160 0, Value.int 2 0, Value.int 0 0, Value.int 0 0, Value.int 3 0, Value.ref 236, Value.bool true, Value.int 181 0, Value.ref 237, Value.none, Value.ref 238, Value.ref 239, Value.ref 240, Value.int 519 0, Value.int 160 0, Value.str (Str.ofString "/claim/cut.py") 520] }),
  (242, fnO (St 35) "_law_written" (Value.none) (.str (Str.ofString "law_nt0274_01") 485) 241),
  (248, { cls := .type "code", data := .fields #[Value.str (Str.ofString "_law_bare") 522, Value.str (Str.ofString "_law_bare") 523, Value.str (Str.ofString "/claim/cut.py") 524, Value.int 170 0, Value.int 1 0, Value.int 0 0, Value.int 0 0, Value.int 3 0, Value.ref 243, Value.bool true, Value.int 181 0, Value.ref 244, Value.none, Value.ref 245, Value.ref 246, Value.ref 247, Value.int 526 0, Value.int 170 0, Value.str (Str.ofString "/claim/cut.py") 527] }),
  (249, fnO (St 36) "_law_bare" (Value.none) (.str (Str.ofString "law_nt0274_01") 485) 248),
  (253, { cls := .type "code", data := .fields #[Value.str (Str.ofString "_law_number") 529, Value.str (Str.ofString "_law_number") 530, Value.str (Str.ofString "/claim/cut.py") 531, Value.int 172 0, Value.int 1 0, Value.int 0 0, Value.int 0 0, Value.int 3 0, Value.ref 250, Value.bool true, Value.int 181 0, Value.ref 251, Value.none, Value.none, Value.none, Value.ref 252, Value.int 532 0, Value.int 172 0, Value.str (Str.ofString "/claim/cut.py") 533] }),
  (254, fnO (St 37) "_law_number" (Value.none) (.str (Str.ofString "law_nt0274_01") 485) 253),
  (260, { cls := .type "code", data := .fields #[Value.str (Str.ofString "_law_part") 535, Value.str (Str.ofString "_law_part") 536, Value.str (Str.ofString "/claim/cut.py") 537, Value.int 179 0, Value.int 1 0, Value.int 0 0, Value.int 0 0, Value.int 3 0, Value.ref 255, Value.bool true, Value.int 181 0, Value.ref 256, Value.none, Value.ref 257, Value.ref 258, Value.ref 259, Value.int 545 0, Value.int 179 0, Value.str (Str.ofString "/claim/cut.py") 546] }),
  (261, fnO (St 38) "_law_part" (Value.none) (.str (Str.ofString "law_nt0274_01") 485) 260),
  (267, { cls := .type "code", data := .fields #[Value.str (Str.ofString "_law_unpacked") 548, Value.str (Str.ofString "_law_unpacked") 549, Value.str (Str.ofString "/claim/cut.py") 550, Value.int 195 0, Value.int 1 0, Value.int 0 0, Value.int 0 0, Value.int 3 0, Value.ref 262, Value.bool true, Value.int 181 0, Value.ref 263, Value.none, Value.ref 264, Value.ref 265, Value.ref 266, Value.int 555 0, Value.int 195 0, Value.str (Str.ofString "/claim/cut.py") 556] }),
  (268, fnO (St 39) "_law_unpacked" (Value.none) (.str (Str.ofString "law_nt0274_01") 485) 267),
  (272, { cls := .type "code", data := .fields #[Value.str (Str.ofString "_law_due") 558, Value.str (Str.ofString "_law_due") 559, Value.str (Str.ofString "/claim/cut.py") 560, Value.int 203 0, Value.int 2 0, Value.int 0 0, Value.int 0 0, Value.int 3 0, Value.ref 269, Value.bool true, Value.int 181 0, Value.ref 270, Value.none, Value.none, Value.none, Value.ref 271, Value.int 561 0, Value.int 203 0, Value.str (Str.ofString "/claim/cut.py") 562] }),
  (273, fnO (St 40) "_law_due" (Value.none) (.str (Str.ofString "law_nt0274_01") 485) 272),
  (279, { cls := .type "code", data := .fields #[Value.str (Str.ofString "_law_told") 564, Value.str (Str.ofString "_law_told") 565, Value.str (Str.ofString "/claim/cut.py") 566, Value.int 216 0, Value.int 3 0, Value.int 0 0, Value.int 0 0, Value.int 3 0, Value.ref 274, Value.bool true, Value.int 181 0, Value.ref 275, Value.none, Value.ref 276, Value.ref 277, Value.ref 278, Value.int 571 0, Value.int 216 0, Value.str (Str.ofString "/claim/cut.py") 572] }),
  (280, fnO (St 41) "_law_told" (Value.none) (.str (Str.ofString "law_nt0274_01") 485) 279),
  (286, { cls := .type "code", data := .fields #[Value.str (Str.ofString "_law_bent") 574, Value.str (Str.ofString "_law_bent") 575, Value.str (Str.ofString "/claim/cut.py") 576, Value.int 223 0, Value.int 3 0, Value.int 0 0, Value.int 0 0, Value.int 3 0, Value.ref 281, Value.bool true, Value.int 181 0, Value.ref 282, Value.none, Value.ref 283, Value.ref 284, Value.ref 285, Value.int 587 0, Value.int 223 0, Value.str (Str.ofString "/claim/cut.py") 588] }),
  (287, fnO (St 42) "_law_bent" (Value.none) (.str (Str.ofString "law_nt0274_01") 485) 286),
  (291, { cls := .type "code", data := .fields #[Value.str (Str.ofString "law") 590, Value.str (Str.ofString "law") 591, Value.str (Str.ofString "/claim/cut.py") 592, Value.int 251 0, Value.int 1 0, Value.int 0 0, Value.int 0 0, Value.int 3 0, Value.ref 288, Value.bool true, Value.int 181 0, Value.ref 289, Value.none, Value.none, Value.none, Value.ref 290, Value.int 593 0, Value.int 251 0, Value.str (Str.ofString "/claim/cut.py") 594] }),
  (292, fnO (St 43) "law" (Value.none) (.str (Str.ofString "law_nt0274_01") 485) 291)]
noncomputable def KA : List Addr := [3, 22, 28, 29, 31, 32, 56, 57, 68, 69, 80, 81, 87, 88, 92, 93, 97, 98, 104, 105, 111, 112, 118, 119, 125, 126, 132, 133, 139, 140, 146, 147, 153, 154, 160, 161, 167, 168, 172, 173, 179, 180, 186, 187, 193, 194, 207, 208, 209, 215, 216, 218, 219, 227, 228, 234, 235, 241, 242, 248, 249, 253, 254, 260, 261, 267, 268, 272, 273, 279, 280, 286, 287, 291, 292]
theorem KA_eq : ∀ P, KA = (KK P).map (·.1) := fun _ => by kernel_rfl

end Nt

set_option Elab.async false
set_option maxRecDepth 100000
open PySem PySem.W PyProof.Rows PySem.Calls
namespace Nt

/-- the whole top in one run from the boot's state, with the looks behind it -/
theorem left_once {p q : Program} {loose : List Str} {Xt : Shared → Bool} {α : Type} {Yf : Shared → α} {Ya : World → α} {N : Nat} {m₀ : Nat} {ann : Option Value}
    (open_ : ∀ w : World, (fencedOpening treeTable p w N).map (fun s => (s.heap, s.gens, s.drawn, s.toks)) = some (boot_heap w.params, Array.mk [], boot_drawn, boot_toks))
    (size : ∀ w : World, ((boot_heap w.params).isNs mainGlobals, (boot_heap w.params).objs.size, (boot_heap w.params).nsMap mainGlobals "__annotations__") = (true, m₀, ann))
    (run : ∀ (w : World), (fun os => (topRun treeTable p w m₀ ann N ⟨boot_heap w.params, Array.mk [], boot_drawn, boot_toks, os⟩ (topStub p)).map fun s =>
      ((staticsOk (importedModules p.main.body) (boot_heap w.params) s.heap && namesBound p s.heap && gensDone s && laidKept (boot_heap w.params) s.heap), openSeen q loose (importedModules p.main.body) Xt true s, Yf s)) =
      fun _ => some (true, openGood q loose, Ya w)) : LeftO p q loose Xt Yf Ya N := fun w => by
  obtain ⟨⟨h, gs, d, k, os⟩, e, e'⟩ := Option.map_eq_some_iff.mp (open_ w)
  obtain ⟨rfl, rfl, rfl, rfl⟩ : h = boot_heap w.params ∧ gs = Array.mk [] ∧ d = boot_drawn ∧ k = boot_toks := by simpa using e'
  obtain ⟨z1, z2, z3⟩ : _ ∧ _ ∧ _ := by simpa only [Prod.mk.injEq] using size w
  obtain ⟨s₁, r, l⟩ := Option.map_eq_some_iff.mp (congrFun (run w) os)
  obtain ⟨l1, l2, l3⟩ : _ ∧ _ ∧ _ := by simpa only [Prod.mk.injEq] using l
  have t : topFrom treeTable p w N ⟨boot_heap w.params, Array.mk [], boot_drawn, boot_toks, os⟩ = some s₁ := by
    unfold topFrom
    dsimp only
    rw [z1, z2, z3, r]
    show (match staticsOk (importedModules p.main.body) (boot_heap w.params) s₁.heap && namesBound p s₁.heap && gensDone s₁ && laidKept (boot_heap w.params) s₁.heap with | true => _ | false => _) = _
    rw [l1]
  unfold openEnds
  rw [e]
  show (topFrom treeTable p w N _).map _ = _
  rw [t]
  exact congrArg some (Prod.ext l2 l3)
noncomputable def Q0 : Program := view P0 [43]
noncomputable def LS : List PySem.Str := ["NOUGHT_SIGN", "GitError", "BadObject", "BadBits", "BadDelta", "BadPatch", "text_of", "octets_of", "big_endian", "be32", "at_big_endian", "at_be32", "put_size", "at_size", "number_by", "number_of", "FEED", "SIGNS_85", "ROW_85", "decimal", "row_85", "octets_of_row_85", "write_binary", "read_binary", "patch_row", "told_number", "StoredCodec", "_law_signs", "_law_letters", "_law_octets", "_law_five", "_law_written", "_law_bare", "_law_number", "_law_part", "_law_unpacked", "_law_due", "_law_told", "_law_bent"].map PySem.Str.ofString
end Nt
namespace Nt
noncomputable abbrev R0 : RowW := PySem.Challenge.rw_nt0274_01.row.toRowW
noncomputable abbrev HK : Hook := kHook KK KA KA_eq
noncomputable abbrev Xt0 : Shared → Bool := fun s => xlAt Q0 [] s && recOk R0.records s
theorem open0 : ∀ w : World, (fencedOpening treeTable P0 w 3000).map (fun s => (s.heap, s.gens, s.drawn, s.toks)) = some (boot_heap w.params, Array.mk [], boot_drawn, boot_toks) :=
  boot_open (by kernel_rfl) (by kernel_rfl) (fun s => by kernel_rfl)
theorem size0 : ∀ w : World, ((boot_heap w.params).isNs mainGlobals, (boot_heap w.params).objs.size, (boot_heap w.params).nsMap mainGlobals "__annotations__") = (true, 11, some (.ref 6)) := by
  intro w; kernel_rfl
theorem run0 : ∀ (w : World), (fun os => (topRun treeTable P0 w 11 (some (.ref 6)) 3000 ⟨boot_heap w.params, Array.mk [], boot_drawn, boot_toks, os⟩ (topStub P0)).map fun s =>
      ((staticsOk (importedModules P0.main.body) (boot_heap w.params) s.heap && namesBound P0 s.heap && gensDone s && laidKept (boot_heap w.params) s.heap), openSeen Q0 LS (importedModules P0.main.body) Xt0 true s, HK.obs s)) =
      fun _ => some (true, openGood Q0 LS, HK.val w) := by
  rw [PySem.W.Fast.te14082659384304107361, PySem.W.Fast.te14364793385576792824, PySem.W.Fast.te4187177175401517315]
  intro w
  kernel_rfl
theorem left : LeftO P0 Q0 LS Xt0 HK.obs HK.val 3000 := left_once open0 size0 run0
end Nt

set_option Elab.async false
set_option maxRecDepth 100000
open PySem PySem.W PyProof.Rows PySem.Calls
namespace Nt
noncomputable def lawD : DefRec := ((defOf Q0 (Str.ofString "law")).map (·.1)).getD ⟨Str.empty, ⟨[], [], none, [], [], none, []⟩, [], ⟨.function, [], false, false, []⟩, default⟩
theorem hd0 (h : Walk0 Q0 LS (XL Q0 []) HK.says R0 lawD []) : PySem.Challenge.rw_nt0274_01.Holds := by
  refine holds_law ((congrFun PySem.W.Fast.te9446332074065402090 _).trans (by kernel_rfl)) fun said => ?_
  refine Nt.PySem.W.holds_open (q := Q0) (loose := LS) (Xt := Xt0) (XP := XL Q0 []) (Yf := HK.obs) (Ya := HK.val) (YP := HK.says) (N := 3000) (d := lawD) (kwd := []) left HK.of HK.keeps (fun s e => xl_of s (Bool.and_eq_true_iff.mp e).1) XL.keeps (by kernel_rfl) (by kernel_rfl) (by kernel_rfl) (fun s e => recFacts_of (Bool.and_eq_true_iff.mp e).2) (by rfl) (by assumption) (by decide +kernel) ⟨rfl, rfl, rfl, rfl, rfl, by decide +kernel⟩ ?hw h
  w_witness2
end Nt

set_option Elab.async false
open PySem PyProof.Rows PySem.W PySem.Calls
open PySem.Sem (wp)
namespace Nt

/-- what «exported» asks of one place of the stack -/
noncomputable def holdsIt (self : Value) (x : Code × Pos) : Bool := match Builtin.Bytes.exported self with
  | .stack k => match k [x] with
    | .pure b => b
    | _ => false
  | _ => false
/-- a code that holds no bytearray -/
noncomputable def Calm (c : Code) : Prop := ∀ self p, holdsIt self (c, p) = false
noncomputable def Still (l : List (Code × Pos)) : Prop := ∀ x ∈ l, Calm x.1

noncomputable def wpR {α : Type} (M : Model) (A : Around) (t : Sem α) (Q : α → Shared → Prop) (E : Value → Shared → Prop) (s : Shared) : Prop :=
  ∀ (Γ : PySem.Ctx) p, Γ.In A → Calm Γ.code → Still Γ.below → wp M Γ t (fun a _ s' => Q a s') (fun e _ s' => E e s') p s
noncomputable def codeR (M : Model) (A : Around) (c : Code) (R : Result → Shared → Prop) (s : Shared) : Prop :=
  ∀ (Γ : PySem.Ctx) p, Γ.code = c → Γ.Below A → Still Γ.below → wpCode M Γ R p s

section
variable {α β : Type} {M : Model} {A : Around} {E : Value → Shared → Prop} {s : Shared}

theorem wpR_of {t : Sem α} {Q : α → Shared → Prop} (h : wpAny M A t Q E s) : wpR M A t Q E s := fun Γ p hΓ _ _ => h Γ p hΓ
theorem wpR_pure {a : α} {Q : α → Shared → Prop} (h : Q a s) : wpR M A (pure a) Q E s := fun _ _ _ _ _ => h
theorem wpR_mono {t : Sem α} {Q Q' : α → Shared → Prop} {E' : Value → Shared → Prop} (h : wpR M A t Q E s)
    (hQ : ∀ a s, Q a s → Q' a s) (hE : ∀ e s, E e s → E' e s) : wpR M A t Q' E' s :=
  fun Γ p hΓ h1 h2 => Sem.wp_mono M Γ t (fun a _ s => hQ a s) (fun e _ s => hE e s) p s (h Γ p hΓ h1 h2)
theorem wpR_bind {m : Sem α} {f : α → Sem β} {Q : β → Shared → Prop} (h : wpR M A m (fun a s' => wpR M A (f a) Q E s') E s) :
    wpR M A (m >>= f) Q E s := fun Γ p hΓ h1 h2 => by
  rw [Sem.wp_bind']
  exact Sem.wp_mono M Γ m (fun a p' s' h' => h' Γ p' hΓ h1 h2) (fun _ _ _ h' => h') p s (h Γ p hΓ h1 h2)
theorem wpR_bindA {m : Sem α} {f : α → Sem β} {Q : β → Shared → Prop} (h : wpAny M A m (fun a s' => wpR M A (f a) Q E s') E s) :
    wpR M A (m >>= f) Q E s := wpR_bind (wpR_of h)
theorem wpR_holding {vs : List Value} {m : Sem α} {Q : α → Shared → Prop} (h : wpR M A m Q E s) : wpR M A (holding vs m) Q E s :=
  fun Γ p hΓ h1 h2 => by rw [Sem.wp_holding]; exact h Γ p hΓ h1 h2
theorem wpR_keep {vs : List Value} {m : Sem α} {Q : α → Shared → Prop} (h : wpR M A m Q E s) : wpR M A (m.keep vs) Q E s :=
  fun Γ p hΓ h1 h2 => by rw [Sem.wp_keep]; exact h Γ p hΓ h1 h2
theorem wpR_attempt {m : Sem α} {Q : Except Value α → Shared → Prop} (h : wpR M A m (fun a => Q (.ok a)) (fun e => Q (.error e)) s) :
    wpR M A m.attempt Q E s := fun Γ p hΓ h1 h2 => by rw [Sem.wp_attempt]; exact h Γ p hΓ h1 h2
theorem wpR_onRaise {m : Sem α} {k : Value → Sem Unit} {Q : α → Shared → Prop}
    (h : wpR M A m Q (fun e s' => wpAny M A (k e) (fun _ s'' => E e s'') E s') s) : wpR M A (m.onRaise k) Q E s := fun Γ p hΓ h1 h2 => by
  rw [Sem.wp_onRaise]
  exact Sem.wp_mono M Γ m (fun _ _ _ h' => h') (fun e p' s' h' => h' Γ p' hΓ) p s (h Γ p hΓ h1 h2)
theorem wpR_standAt {pos : Pos} {Q : Unit → Shared → Prop} (h : Q () s) : wpR M A (standAt pos) Q E s := fun _ _ _ _ _ => h
theorem wpR_point {Q : Unit → Shared → Prop} (h : Q () s) : wpR M A point Q E s := wpR_of (wpAny_point h)

theorem wpR_run {c : Code} {h : Option Value} {Q : Flow → Shared → Prop}
    (hc : codeR M (A.mark h) c (fun r s' => match r with | .ok f => Q f s' | .error e => E e s') s) (hnb : h ≠ some byPass := by intro x; cases x) :
    wpR M A (run c h) Q E s :=
  fun Γ p hΓ h1 h2 => by
    rw [Sem.wp_run]
    exact hc _ p rfl (hΓ.enter c h p hnb) (fun x hx => (List.mem_cons.mp hx).elim (fun e => e ▸ h1) (h2 x))
theorem wpR_runValue {c : Code} {Q : Value → Shared → Prop}
    (hc : codeR M A c (fun r s' => match r with | .ok (.ret v) => Q v s' | .ok _ => False | .error e => E e s') s) :
    wpR M A (runValue c) Q E s := fun Γ p hΓ h1 h2 => by
  rw [Sem.wp_runValue]
  exact hc _ p rfl (hΓ.enter c none p (by intro x; cases x)) (fun x hx => (List.mem_cons.mp hx).elim (fun e => e ▸ h1) (h2 x))
theorem wpR_call {f : Value} {pos : List Value} {kw : List (Str × Value)} {Q : Value → Shared → Prop}
    (hc : codeR M A (.call f ⟨pos, kw⟩) (fun r s' => match r with | .ok (.ret v) => Q v s' | .ok _ => False | .error e => E e s') s) :
    wpR M A (call f pos kw) Q E s := wpR_runValue hc

theorem codeR_of_tree {c : Code} {R : Result → Shared → Prop} (hc : Calm c)
    (h : wpR M (A.under c) (M.den c) (fun fin s' => match fin with | .done f => R (.ok f) s' | .again c' => c'.quiet = true ∧ codeR M A c' R s')
      (fun e s' => R (.error e) s') s) : codeR M A c R s := fun Γ p hcc hΓ h2 => by
  rw [wpCode_iff_wp, hcc]
  refine Sem.wp_mono M Γ _ (fun fin p' s' h' => ?_) (fun _ _ _ h' => h') p s (h Γ p (hcc ▸ hΓ.in) (hcc ▸ hc) h2)
  cases fin with
  | done f => exact h'
  | again c' => exact ⟨h'.1, h'.2 (Γ.goto c') p' rfl (hΓ.goto c') h2⟩

theorem codeR_mono {c : Code} {R R' : Result → Shared → Prop} (h : codeR M A c R s) (hR : ∀ r s, R r s → R' r s) : codeR M A c R' s :=
  fun Γ p hc hΓ h2 => wpCode_mono hR (h Γ p hc hΓ h2)

theorem codeR_loop {c : Code} {R : Result → Shared → Prop} (hq : c.quiet = true) (hc : Calm c) (I : Nat → Shared → Prop)
    (turn : ∀ n s, I n s → wpR M (A.under c) (M.den c)
      (fun fin s' => match fin with | .done f => R (.ok f) s' | .again c' => (c' = c ∧ ∃ m, m < n ∧ I m s') ∨ (c'.quiet = true ∧ codeR M A c' R s')) (fun e s' => R (.error e) s') s)
    (n : Nat) (h : I n s) : codeR M A c R s := by
  induction n using Nat.strongRecOn generalizing s with
  | ind n ih =>
    refine codeR_of_tree hc (wpR_mono (turn n s h) (fun fin s' hf => ?_) fun _ _ h' => h')
    cases fin with
    | done f => exact hf
    | again c' =>
      rcases hf with ⟨rfl, m, hm, hI⟩ | hf
      · exact ⟨hq, ih m hm hI⟩
      · exact hf

theorem any_no {α : Type} {l : List α} {f : α → Bool} (h : ∀ x ∈ l, f x = false) : l.any f = false :=
  List.any_eq_false.mpr fun x hx => by rw [h x hx]; exact Bool.false_ne_true

theorem wpR_exported {self : Value} {Q : Bool → Shared → Prop} (h : Q false s) : wpR M A (Builtin.Bytes.exported self) Q E s := fun Γ p _ h1 h2 => by
  show Q (List.any ((Γ.code, p) :: Γ.below) _) s
  refine (congrArg (fun b => Q b s) (any_no ?_)).mpr h
  intro x hx
  have hc : Calm x.1 := (List.mem_cons.mp hx).elim (fun e => e ▸ h1) (h2 x)
  exact (Bool.or_eq_false_iff.mp (hc self x.2)).1

theorem wpR_if_true {c : Bool} {a b : Sem α} {Q : α → Shared → Prop} (hc : c = true) (h : wpR M A a Q E s) : wpR M A (if c = true then a else b) Q E s := by
  subst hc; exact h
theorem wpR_if_false {c : Bool} {a b : Sem α} {Q : α → Shared → Prop} (hc : c = false) (h : wpR M A b Q E s) : wpR M A (if c = true then a else b) Q E s := by
  subst hc; exact h
theorem wpR_of_eq {t : Sem α} {a : α} {Q : α → Shared → Prop} (h : t = pure a) (hQ : Q a s) : wpR M A t Q E s := h ▸ wpR_pure hQ
theorem wpR_bindEq {m : Sem α} {a : α} {f : α → Sem β} {Q : β → Shared → Prop} (h : m = pure a) (hk : wpR M A (f a) Q E s) : wpR M A (m >>= f) Q E s :=
  wpR_bind (wpR_of_eq h hk)
end

section
variable {prog : Program} {w : World} {A : Around} {E : Value → Shared → Prop} {s : Shared} {R : Result → Shared → Prop}

theorem codeR_builtin {id : String} {args : Args} {b : Builtin} (hs : Calm (.builtin id args)) (hb : entryFor table id = some b)
    (h : wpR (model prog w) (A.under (.builtin id args)) (b args)
      (fun fin s' => match fin with | .done f => R (.ok f) s' | .again c' => c'.quiet = true ∧ codeR (model prog w) A c' R s') (fun e s' => R (.error e) s') s) :
    codeR (model prog w) A (.builtin id args) R s := by
  refine codeR_of_tree hs ?_
  show wpR _ _ (match entryFor table id with | some b => b args | none => unsupported ((withoutEnding? id "#data").getD id)) _ _ s
  rw [hb]; exact h

theorem codeR_call_builtin {id : String} {args : Args} {b : Builtin} (hs : Calm (.builtin id args)) (hq : plainId id = true) (hb : entryFor table id = some b)
    (h : wpAny (model prog w) A.in1 (checkBuiltinCall id args) (fun _ s₁ => wpR (model prog w) A.in1 (b args)
      (fun fin s' => match fin with | .done f => R (.ok f) s' | .again c' => c'.quiet = true ∧ codeR (model prog w) A c' R s') (fun e s' => R (.error e) s') s₁)
      (fun e s' => R (.error e) s') s) : codeR (model prog w) A (.call (.builtin id) args) R s := by
  refine codeR_of_tree (fun _ _ => rfl) ?_
  show wpR _ A.in1 (do checkBuiltinCall id args; again (.builtin id args)) _ _ s
  refine wpR_bindA (wpAny_mono h (fun _ s₁ h₁ => wpR_pure ⟨plainId_quiet hq args, codeR_builtin hs hb ?_⟩) fun _ _ x => x)
  rw [Around.under_plainId hq args]
  exact h₁

theorem codeR_call_function {a : Addr} {args : Args} {o : Obj} {fd : FuncData} {body : List Stmt} (hroom : A.depth < recursionLimit)
    (ho : s.heap.get? a = some o)
    (hd' : o.data = .func fd) (hco : fd.scope.isCoroutine = false) (hgen : fd.scope.isGenerator = false) (hbody : fd.body = .stmts body) (hcd : s.heap.CodeRec fd.code fd.qualname)
    (h : wpAny (model prog w) A.in1 (bindArgs fd args) (fun binds s₁ =>
      wpAny (model prog w) A.in1 (newFunctionEnv fd.scope fd.globals fd.closure binds (fd.qualname ++ ".<locals>.") (some a) fd.code none fd.builtins)
        (fun env s₂ => s₂.heap.NoLimit ∧ codeR (model prog w) A (.func body env) R s₂) (fun e s' => R (.error e) s') s₁) (fun e s' => R (.error e) s') s) :
    codeR (model prog w) A (.call (.ref a) args) R s := by
  refine codeR_of_tree (fun _ _ => rfl) ?_
  show wpR _ A.in1 (callAny (.ref a) args) _ _ s
  refine wpR_of (wpAny_bind (m := load a) (wpAny_load ho ?_))
  obtain ⟨c, oc, vs, tq, hc, hoc, hdc, hq⟩ := hcd
  rw [hd']
  dsimp only
  delta callFunction
  rw [hco, hgen, hbody, hc]
  dsimp only
  rw [hc] at h
  refine wpAny_bind (m := field (.ref c) 1) (wpAny_field hoc hdc hq (wpAny_bind (wpAny_pure ?_)))
  exact wpAny_bind (wpAny_mono h (fun binds s₁ h₁ => wpAny_bind (wpAny_mono h₁ (fun env s₂ h₂ => wpAny_bind (wpAny_enterFrame h₂.1 hroom
    (wpAny_pure (And.intro rfl h₂.2)))) fun _ _ h' => h')) fun _ _ h' => h')

theorem codeR_func {body : List Stmt} {env : Env}
    (h : wpR (model prog w) (A.deeper env) (execs body env) (fun f s' => R (.ok (.ret (match f with | .ret v => v | _ => .none))) s')
      (fun e s' => wpAny (model prog w) (A.deeper env) (leaving env e) (fun _ s'' => R (.error e) s'') (fun e' s'' => R (.error e') s'') s') s) :
    codeR (model prog w) A (.func body env) R s := by
  refine codeR_of_tree (fun _ _ => rfl) ?_
  show wpR _ (A.deeper env) (do point; match ← (execs body env).onRaise (leaving env) with | .ret v => ret v | _ => ret .none) _ _ s
  refine wpR_bindA (wpAny_point (wpR_bind (wpR_onRaise (wpR_mono h (fun f s' h' => ?_) fun _ _ h' => h'))))
  cases f <;> exact wpR_pure h'

theorem codeR_block {stmts : List Stmt} {env : Env}
    (h : wpR (model prog w) A (execs stmts env) (fun f s' => R (.ok f) s') (notedBy (model prog w) A env fun e s' => R (.error e) s') s) :
    codeR (model prog w) A (.block stmts env) R s := by
  refine codeR_of_tree (fun _ _ => rfl) ?_
  show wpR _ A (do return PySem.Fin.done (← (execs stmts env).onRaise (fun x => do noteFrame x env; theTreesLotGoes x))) _ _ s
  refine wpR_bind (wpR_onRaise (wpR_mono h (fun f s' h' => wpR_pure h') fun e s' h' => ?_))
  exact wpAny_bind (wpAny_mono h' (fun _ s'' h'' => wpAny_theTreesLotGoes h'') fun _ _ x => x)

theorem wpR_runOwn {c : Code} {env : Env} {h : Option Value} {Q : Flow → Shared → Prop}
    (hc : codeR (model prog w) (A.mark h) c (fun r s' => match r with | .ok f => Q f s' | .error e => cameBackBy (model prog w) A env E e s') s) (hnb : h ≠ some byPass := by intro x; cases x) :
    wpR (model prog w) A (runOwn c env h) Q E s := by
  unfold runOwn
  exact wpR_onRaise (wpR_run hc hnb)

theorem wpR_noted {α : Type} {t : Sem α} {env : Env} {Q : α → Shared → Prop} (h : wpR (model prog w) A t Q (notedBy (model prog w) A env E) s) :
    wpR (model prog w) A (t.onRaise (fun x => do noteFrame x env; theTreesLotGoes x)) Q E s :=
  wpR_onRaise (wpR_mono h (fun _ _ x => x) fun e s' h' => wpAny_bind (wpAny_mono h' (fun _ s'' h'' => wpAny_theTreesLotGoes h'') fun _ _ x => x))

theorem codeR_whileLoop {test : Expr} {body orelse : List Stmt} {env : Env} (I : Nat → Shared → Prop)
    (turn : ∀ n s, I n s →
      wpR (model prog w) A (isTrue test env (eval test env)) (fun b s₂ =>
        if b then wpR (model prog w) A (execs body env) (fun f s₃ => match f with
            | .next | .cont => ∃ m, m < n ∧ I m s₃
            | .brk => R (.ok .next) s₃
            | .ret v => R (.ok (.ret v)) s₃) (notedBy (model prog w) A env fun e s' => R (.error e) s') s₂
        else wpR (model prog w) A (execs orelse env) (fun f s₃ => R (.ok f) s₃) (notedBy (model prog w) A env fun e s' => R (.error e) s') s₂)
        (notedBy (model prog w) A env fun e s' => R (.error e) s') s)
    (n : Nat) (h : I n s) : codeR (model prog w) A (.whileLoop test body orelse env) R s := by
  refine codeR_loop rfl (fun _ _ => rfl) I (fun n s hI => ?_) n h
  show wpR _ A ((whileTurn test body orelse env).onRaise (fun x => do noteFrame x env; theTreesLotGoes x)) _ _ s
  refine wpR_noted ?_
  simp only [whileTurn]
  refine wpR_bind (wpR_mono (turn n s hI) (fun b s₂ h₂ => ?_) fun _ _ h' => h')
  cases b with
  | false =>
    simp only [Bool.false_eq_true, if_false] at h₂ ⊢
    exact wpR_bind (wpR_mono h₂ (fun f s₃ h₃ => wpR_pure h₃) fun _ _ h' => h')
  | true =>
    simp only [if_true] at h₂ ⊢
    refine wpR_bind (wpR_mono h₂ (fun f s₃ h₃ => ?_) fun _ _ h' => h')
    cases f with
    | next => exact wpR_pure (.inl ⟨rfl, h₃⟩)
    | cont => exact wpR_pure (.inl ⟨rfl, h₃⟩)
    | brk => exact wpR_pure h₃
    | ret v => exact wpR_pure h₃

theorem codeR_forLoop {target : Expr} {it : Value} {body orelse : List Stmt} {env : Env} (I : Nat → Shared → Prop)
    (turn : ∀ n s, I n s → wpAny (model prog w) A (pyNext it) (fun r s₁ => match r with
      | none => wpR (model prog w) A (execs orelse env) (fun f s₃ => R (.ok f) s₃) (notedBy (model prog w) A env fun e s' => R (.error e) s') s₁
      | some v => wpAny (model prog w) A (assign target env v) (fun _ s₂ => wpR (model prog w) A (execs body env) (fun f s₃ => match f with
          | .next | .cont => ∃ m, m < n ∧ I m s₃
          | .brk => R (.ok .next) s₃
          | .ret v => R (.ok (.ret v)) s₃) (notedBy (model prog w) A env fun e s' => R (.error e) s') s₂) (notedBy (model prog w) A env fun e s' => R (.error e) s') s₁) (notedBy (model prog w) A env fun e s' => R (.error e) s') s)
    (n : Nat) (h : I n s) (ht : ∀ v, letOwnedTupleGo target it v = pure () := by intro _; rfl) : codeR (model prog w) A (.forLoop target it body orelse env) R s := by
  refine codeR_loop rfl (fun _ _ => rfl) I (fun n s hI => ?_) n h
  show wpR _ _ ((forTurn target it body orelse env).onRaise (fun x => do noteFrame x env; theTreesLotGoes x)) _ _ s
  refine wpR_noted ?_
  simp only [forTurn]
  refine wpR_bindA (wpAny_standAt (wpR_bindA (wpAny_onRaise (wpAny_mono (turn n s hI) (fun r s₁ h₁ => ?_) fun _ _ h' => wpAny_standAt h'))))
  cases r with
  | none => exact wpR_pure (.inr ⟨rfl, codeR_block h₁⟩)
  | some v =>
    refine wpR_bindEq (ht v) ?_
    refine wpR_bindA (wpAny_mono h₁ (fun _ s₂ h₂ => wpR_bind (wpR_mono h₂ (fun f s₃ h₃ => ?_) fun _ _ h' => h')) fun _ _ h' => h')
    cases f with
    | next => exact wpR_pure (.inl ⟨rfl, h₃⟩)
    | cont => exact wpR_pure (.inl ⟨rfl, h₃⟩)
    | brk => exact wpR_pure h₃
    | ret v => exact wpR_pure h₃
end

section
variable {prog : Program} {w : World} {A : Around} {E : Value → Shared → Prop} {s : Shared} {env : Env} {Q : Flow → Shared → Prop}
theorem execsR_cons {st : Stmt} {rest : List Stmt} (h : wpR (model prog w) A (exec st env) (fun f s' => match f with | .next => wpR (model prog w) A (execs rest env) Q E s' | f => Q f s') E s) :
    wpR (model prog w) A (execs (st :: rest) env) Q E s := by
  rw [execs_cons]
  refine wpR_bind (wpR_mono h (fun f s' h' => ?_) fun _ _ x => x)
  cases f <;> first | exact h' | exact wpR_pure h'
theorem execR_While {test : Expr} {body orelse : List Stmt} {pos : Pos}
    (h : codeR (model prog w) A (.whileLoop test body orelse env) (fun r s' => match r with | .ok f => Q f s' | .error e => cameBackBy (model prog w) A env E e s') s) :
    wpR (model prog w) A (exec (.While test body orelse pos) env) Q E s := by
  rw [exec_While]; exact wpR_bindA (wpAny_standAt (wpR_runOwn h))
theorem execR_For {target iter : Expr} {body orelse : List Stmt} {pos : Pos}
    (h : wpR (model prog w) A (eval iter env) (fun x s₁ => wpAny (model prog w) A (pyIter x) (fun it s₂ =>
      codeR (model prog w) A (.forLoop target it body orelse env) (fun r s' => match r with | .ok f => Q f s' | .error e => cameBackBy (model prog w) A env E e s') s₂) E s₁) E s)
    (hs : ∀ x, foldedSetIterable iter env x = pure x := by intro _; rfl) :
    wpR (model prog w) A (exec (.For target iter body orelse pos) env) Q E s := by
  rw [exec_For]
  refine wpR_bindA (wpAny_standAt (wpR_bind (wpR_mono h (fun x s₁ h₁ => ?_) fun _ _ h' => h')))
  refine wpR_bindEq (hs x) (wpR_bindA (wpAny_standAt (wpR_bindA (wpAny_holding (wpAny_mono h₁ (fun it s₂ h₂ => ?_) fun _ _ h' => h')))))
  exact wpR_runOwn (env := env) (h := none) (Q := Q) h₂
end
end Nt

set_option Elab.async false
set_option maxRecDepth 100000
open PySem PySem.W PyProof.Rows PySem.Calls
namespace Nt

/-- Python's cut of a list -/
noncomputable def cut {α : Type} (l : List α) (lo hi : Option Int) : List α :=
  (l.drop (lo.elim 0 (clipAt l.length))).take (hi.elim l.length (clipAt l.length) - lo.elim 0 (clipAt l.length))
theorem cut_le {α : Type} (l : List α) (lo hi : Option Int) : (cut l lo hi).length ≤ l.length := by
  unfold cut; rw [List.length_take, List.length_drop]; lia

section
variable {prog : Program} {w : World} {A : Around} {E : Value → Shared → Prop} {s : Shared} {value slice : PySem.Expr} {b c : List UInt8} {t u : Tok} {h₀ : Heap} {L : Addr} {m : PySem.Str → Option Value} {news : List (Addr × Obj)} {l v : Value} {lo hi : Option Int} {Q : Value → Shared → Prop} {i : Int}

theorem eq_L {P : Value → Shared → Prop} (h : P (.bool (b == c)) s) : wpAny (model prog w) A (compareOp .Eq (.bytes b.toArray t) (.bytes c.toArray u)) P E s := PySem.W.eq_bytes h
theorem ne_L {P : Value → Shared → Prop} (h : P (.bool (b != c)) s) : wpAny (model prog w) A (compareOp .NotEq (.bytes b.toArray t) (.bytes c.toArray u)) P E s := PySem.W.ne_bytes h
end
end Nt

set_option Elab.async false
set_option maxRecDepth 100000
open PySem PySem.W PyProof.Rows PySem.Calls
namespace Nt
set_option genInjectivity false
set_option genSizeOf false
set_option compiler.extract_closed false
noncomputable section

/-- values without a heap -/
inductive PV where
  | none | bool (b : Bool) | int (i : Int) | str (x : Str) | bytes (b : List UInt8)
  | il (l : List Int) | rl (l : List (List UInt8)) | pair (p q : PV) | trip (p q r : PV) | ba (b : List UInt8) | codec | sl (l : List Str) | rng (a b c : Int)

noncomputable def instO (C dx : Addr) : Obj := ⟨.ref C, some dx, .plain, #[]⟩
noncomputable def baO (b : List UInt8) : Obj := { cls := .type "bytearray", data := .bytearray b.toArray }

/-- a list of values stands for bytes -/
noncomputable def BytesAre (vs : List Value) : List (List UInt8) → Prop
  | [] => vs = []
  | b :: bs => ∃ (t : Tok) (r : List Value), vs = Value.bytes b.toArray t :: r ∧ BytesAre r bs

/-- a value stands for a PV at a heap, by objects that are none of H -/
noncomputable def Rep (H : List Addr) (h : Heap) : PV → Value → Prop
  | .none, v => v = .none
  | .bool b, v => v = .bool b
  | .int i, v => ∃ t, v = .int i t
  | .str x, v => ∃ t, v = .str x t
  | .bytes b, v => ∃ t, v = .bytes b.toArray t
  | .il l, v => ∃ a vs, v = .ref a ∧ a ∉ H ∧ h.IsList a (List.toArray vs) ∧ IntsAre vs l
  | .rl l, v => ∃ a vs, v = .ref a ∧ a ∉ H ∧ h.IsList a (List.toArray vs) ∧ BytesAre vs l
  | .pair p q, v => ∃ a x y, v = .ref a ∧ a ∉ H ∧ IsTup h a #[x, y] ∧ Rep H h p x ∧ Rep H h q y
  | .trip p q r, v => ∃ a x y z, v = .ref a ∧ a ∉ H ∧ IsTup h a #[x, y, z] ∧ Rep H h p x ∧ Rep H h q y ∧ Rep H h r z
  | .ba b, v => ∃ a, v = .ref a ∧ a ∉ H ∧ h.get? a = some (baO b)
  | .sl l, v => ∃ a vs, v = .ref a ∧ a ∉ H ∧ h.IsList a (List.toArray vs) ∧ StrsAre vs l
  | .rng x y z, v => ∃ a t u w, v = .ref a ∧ a ∉ H ∧ IsRange h a x y z t u w
  | .codec, v => ∃ a dx, v = .ref a ∧ a ∉ H ∧ dx ∉ H ∧ h.get? a = some (instO 219 dx) ∧ h.get? dx = some (dictOf [] 0)

/-- an object with neither a dict nor slots -/
noncomputable def Bare (h : Heap) (a : Addr) : Prop := ∃ o, h.get? a = some o ∧ o.dict = none ∧ o.slots = #[]
theorem Bare.stays {h h' : Heap} {a : Addr} (x : Bare h a) (k : h.StaysIn h') : Bare h' a := let ⟨o, e, r⟩ := x; ⟨o, k a o e, r⟩
/-- all that is none of H stands as it stood -/
noncomputable def Same (H : List Addr) (h h' : Heap) : Prop := ∀ a o, a ∉ H → h.get? a = some o → h'.get? a = some o
theorem Same.of {H : List Addr} {h h' : Heap} (k : h.StaysIn h') : Same H h h' := fun a o _ e => k a o e
theorem Same.list {H : List Addr} {h h' : Heap} (k : Same H h h') {a : Addr} {items : Array Value} (n : a ∉ H) (x : h.IsList a items) : h'.IsList a items :=
  let ⟨o, ho, r⟩ := x; ⟨o, k a o n ho, r⟩
theorem Same.tup {H : List Addr} {h h' : Heap} (k : Same H h h') {a : Addr} {items : Array Value} (n : a ∉ H) (x : IsTup h a items) : IsTup h' a items :=
  let ⟨o, ho, r⟩ := x; ⟨o, k a o n ho, r⟩

/-- another heap, other objects shut out -/
theorem Rep.turn {H H' : List Addr} {h h' : Heap} (k : Same H h h') (n : ∀ a o, a ∉ H → h.get? a = some o → a ∉ H') : ∀ {p : PV} {v : Value}, Rep H h p v → Rep H' h' p v := by
  intro p
  induction p with
  | none | bool | int | str | bytes => exact fun r => r
  | il l => rintro v ⟨a, vs, e, m, x, i⟩; exact ⟨a, vs, e, n a _ m x.choose_spec.1, k.list m x, i⟩
  | rl l => rintro v ⟨a, vs, e, m, x, i⟩; exact ⟨a, vs, e, n a _ m x.choose_spec.1, k.list m x, i⟩
  | pair p q ip iq => rintro v ⟨a, x, y, e, m, t, r1, r2⟩; exact ⟨a, x, y, e, n a _ m t.choose_spec.1, k.tup m t, ip r1, iq r2⟩
  | trip p q r ip iq ir => rintro v ⟨a, x, y, z, e, m, t, r1, r2, r3⟩; exact ⟨a, x, y, z, e, n a _ m t.choose_spec.1, k.tup m t, ip r1, iq r2, ir r3⟩
  | ba b => rintro v ⟨a, e, m, g⟩; exact ⟨a, e, n a _ m g, k _ _ m g⟩
  | sl l => rintro v ⟨a, vs, e, m, x, i⟩; exact ⟨a, vs, e, n a _ m x.choose_spec.1, k.list m x, i⟩
  | rng x y z => rintro v ⟨a, t, u, w, e, m, x⟩; exact ⟨a, t, u, w, e, n a _ m x, k _ _ m x⟩
  | codec => rintro v ⟨a, dx, e, m, d, g, g'⟩; exact ⟨a, dx, e, n a _ m g, n dx _ d g', k _ _ m g, k _ _ d g'⟩
theorem Rep.same {H : List Addr} {h h' : Heap} (k : Same H h h') {p : PV} {v : Value} (r : Rep H h p v) : Rep H h' p v := r.turn k fun _ _ m _ => m
theorem Rep.stays {H : List Addr} {h h' : Heap} (k : h.StaysIn h') {p : PV} {v : Value} (r : Rep H h p v) : Rep H h' p v := r.same (Same.of k)
theorem Rep.less {H H' : List Addr} {h : Heap} (k : ∀ a, a ∈ H' → a ∈ H) {p : PV} {v : Value} (r : Rep H h p v) : Rep H' h p v := r.turn (fun _ _ _ e => e) fun a _ m _ q => m (k a q)
/-- a value without an object -/
noncomputable def PV.imm : PV → Bool
  | .none | .bool _ | .int _ | .str _ | .bytes _ => true
  | _ => false
theorem Rep.any {H H' : List Addr} {h h' : Heap} {v : Value} {p : PV} (i : p.imm = true) (r : Rep H h p v) : Rep H' h' p v := by
  cases p <;> first | exact r | cases i

noncomputable def Reps (H : List Addr) (h : Heap) : List PV → List Value → Prop
  | [], vs => vs = []
  | p :: ps, vs => ∃ v r, vs = v :: r ∧ Rep H h p v ∧ Reps H h ps r
theorem Reps.turn {H H' : List Addr} {h h' : Heap} (k : Same H h h') (n : ∀ a o, a ∉ H → h.get? a = some o → a ∉ H') {ps : List PV} : ∀ {vs : List Value}, Reps H h ps vs → Reps H' h' ps vs := by
  induction ps with
  | nil => exact fun r => r
  | cons p ps ih => rintro vs ⟨v, r, e, a, b⟩; exact ⟨v, r, e, a.turn k n, ih b⟩
theorem Reps.stays {H : List Addr} {h h' : Heap} (k : h.StaysIn h') {ps : List PV} {vs : List Value} (r : Reps H h ps vs) : Reps H h' ps vs := r.turn (Same.of k) fun _ _ m _ => m

noncomputable abbrev Loc := List (Str × PV)
/-- the frame's locals stand for these -/
noncomputable def Lc (H : List Addr) (h : Heap) (m : Str → Option Value) (loc : Loc) : Prop := ∀ x p, loc.lookup x = some p → ∃ v, m x = some v ∧ Rep H h p v
theorem Lc.turn {H H' : List Addr} {h h' : Heap} {m : Str → Option Value} {loc : Loc} (k : Same H h h') (n : ∀ a o, a ∉ H → h.get? a = some o → a ∉ H') (c : Lc H h m loc) : Lc H' h' m loc :=
  fun x p e => let ⟨v, a, b⟩ := c x p e; ⟨v, a, b.turn k n⟩
theorem Lc.stays {H : List Addr} {h h' : Heap} {m : Str → Option Value} {loc : Loc} (k : h.StaysIn h') (c : Lc H h m loc) : Lc H h' m loc := c.turn (Same.of k) fun _ _ m _ => m
/-- what is asked stands in what there is -/
noncomputable def subLoc (loc' loc : Loc) : Prop := ∀ x p, loc'.lookup x = some p → loc.lookup x = some p
theorem subLoc.nil {loc : Loc} : subLoc [] loc := fun _ _ e => nomatch e
theorem subLoc.cons {loc' loc : Loc} {x : Str} {p : PV} (e : loc.lookup x = some p) (r : subLoc loc' loc) : subLoc ((x, p) :: loc') loc := fun y q h => by
  rw [List.lookup_cons] at h
  by_cases h1 : y = x
  · subst h1
    rw [beq_self_eq_true] at h
    cases h
    exact e
  · rw [beq_eq_false_iff_ne.mpr h1] at h
    exact r y q h
theorem Lc.sub {H : List Addr} {h : Heap} {m : Str → Option Value} {loc loc' : Loc} (s : subLoc loc' loc) (c : Lc H h m loc) : Lc H h m loc' := fun x p e => c x p (s x p e)

noncomputable abbrev Cond := Option Prop
noncomputable def Cond.holds : Cond → Prop
  | Option.none => True
  | Option.some P => P
noncomputable def Cond.and : Cond → Cond → Cond
  | Option.none, d => d
  | Option.some P, Option.none => Option.some P
  | Option.some P, Option.some Q => Option.some (P ∧ Q)
theorem Cond.and_use : ∀ {c d : Cond}, (Cond.and c d).holds → c.holds ∧ d.holds
  | Option.none, _, h => ⟨trivial, h⟩
  | Option.some _, Option.none, h => ⟨h, trivial⟩
  | Option.some _, Option.some _, h => h
noncomputable def Cond.imp (b : Prop) : Cond → Cond
  | Option.none => Option.none
  | Option.some P => Option.some (b → P)
theorem Cond.imp_use {b : Prop} : ∀ {c : Cond}, (Cond.imp b c).holds → b → c.holds
  | Option.none, _, _ => trivial
  | Option.some _, h, hb => h hb
end
end Nt

set_option Elab.async false
set_option maxRecDepth 100000
open PySem PySem.W PyProof.Rows PySem.Calls
namespace Nt
set_option genInjectivity false
set_option genSizeOf false
set_option compiler.extract_closed false
noncomputable section

/-- the world's side of the walk -/
structure Wd where
  prog : Program
  w : World
  K : Frag
  p : Program
  loose : List Str
  mean : ExcName → Option Value
  mg : Str → Option Value
  mb : Str → Option Value
/-- one frame's side of the walk -/
structure Fm where
  dp : Nat
  un : Nat
  gd : Option (List Code)
  cn : Str
  cs : Scope
  a : Addr
  ccd : Value
  cl : List (Str × Addr)
  outer : List Env
  A₀ : Around
  base : Heap
  h₀ : Heap
  L : Addr
noncomputable def Fm.A (f : Fm) : Around := ktrTop f.dp f.un f.gd f.cn f.cs f.L f.a f.ccd f.cl f.outer
noncomputable def Fm.env (f : Fm) : Env := envX f.cn f.cs f.L f.a f.ccd f.cl
structure Fm.ok (W : Wd) (lv : Nat) (f : Fm) : Prop where
  B : Below f.A₀ f.base f.outer f.h₀
  X : W.K.In f.h₀
  T : Top W.p W.loose W.mean W.mg W.mb f.h₀
  k : f.cs.kind = .function
  rd : f.dp + lv < recursionLimit
  ru : f.un + 10 * lv + 100 < cLine
  dA : f.A = f.A₀.deeper f.env
  XB : W.K.In f.base
  TB : Top W.p W.loose W.mean W.mg W.mb f.base

/-- an answer with its condition: what holds of it -/
noncomputable def Ok {α : Type} (o : Option (α × Cond)) (k : α → Prop) : Prop := ∀ a c, o = some (a, c) → c.holds → k a
theorem Ok.some {α : Type} {a : α} {c : Cond} {k : α → Prop} (h : c.holds → k a) : Ok (Option.some (a, c)) k := fun b d e hd => by cases e; exact h hd
theorem Ok.none {α : Type} {k : α → Prop} : Ok Option.none k := fun _ _ e => nomatch e
noncomputable def alt {γ : Type} (a b : Option γ) : Option γ := match a with
  | some x => some x
  | none => b
theorem Ok.alt {α : Type} {o p : Option (α × Cond)} {k : α → Prop} (h : Ok o k) (g : Ok p k) : Ok (alt o p) k := by
  cases o with
  | none => exact g
  | some x => exact h
noncomputable def seq {α β : Type} (o : Option (α × Cond)) (f : α → Option (β × Cond)) : Option (β × Cond) := match o with
  | some (a, c) => match f a with
    | some (b, d) => some (b, c.and d)
    | none => none
  | none => none
theorem Ok.seq {α β : Type} {o : Option (α × Cond)} {f : α → Option (β × Cond)} {k : α → Prop} {k' : β → Prop} (h : Ok o k) (g : ∀ a, k a → Ok (f a) k') : Ok (seq o f) k' := by
  rcases o with _ | ⟨a, c⟩
  · exact .none
  · unfold Nt.seq
    dsimp only
    cases e : f a with
    | none => exact .none
    | some x => exact .some fun hc => g a (h a c rfl (Cond.and_use hc).1) x.1 x.2 e (Cond.and_use hc).2
noncomputable def onlyIf {α : Type} (b : Bool) (o : Option α) : Option α := match b with
  | true => o
  | false => none
theorem Ok.onlyIf {α : Type} {b : Bool} {o : Option (α × Cond)} {k : α → Prop} (h : b = true → Ok o k) : Ok (onlyIf b o) k := by
  cases b with
  | false => exact .none
  | true => exact h rfl
noncomputable def with_ {α β : Type} (o : Option α) (f : α → Option β) : Option β := match o with
  | some a => f a
  | none => none
theorem Ok.with_ {α β : Type} {o : Option α} {f : α → Option (β × Cond)} {k : β → Prop} (h : ∀ a, o = Option.some a → Ok (f a) k) : Ok (with_ o f) k := by
  cases o with
  | none => exact .none
  | some a => exact h a rfl

theorem no_ {α : Type} {x : α} {Q : Prop} (h : none = some x) : Q := nomatch h
theorem onlyIf_use {α : Type} {b : Bool} {o : Option α} {r : α} (h : onlyIf b o = some r) : b = true ∧ o = some r := by
  cases b with
  | false => exact no_ h
  | true => exact ⟨rfl, h⟩
theorem with_use {α β : Type} {o : Option α} {f : α → Option β} {r : β} (h : with_ o f = some r) : ∃ a, o = some a ∧ f a = some r := by
  cases o with
  | none => exact no_ h
  | some a => exact ⟨a, rfl, h⟩
theorem seq_use {α β : Type} {o : Option (α × Cond)} {f : α → Option (β × Cond)} {r : β × Cond} (h : seq o f = some r) : ∃ a c x, o = some (a, c) ∧ f a = some x := by
  rcases o with _ | ⟨a, c⟩
  · exact no_ h
  · cases e : f a with
    | none =>
      unfold Nt.seq at h
      dsimp only at h
      rw [e] at h
      exact no_ h
    | some x => exact ⟨a, c, x, rfl, e⟩
noncomputable def PV.int? : (p : PV) → Option {i : Int // p = .int i}
  | .int i => some ⟨i, rfl⟩
  | _ => Option.none
noncomputable def PV.bytes? : (p : PV) → Option {i : List UInt8 // p = .bytes i}
  | .bytes b => some ⟨b, rfl⟩
  | _ => Option.none
noncomputable def PV.rl? : (p : PV) → Option {i : List (List UInt8) // p = .rl i}
  | .rl b => some ⟨b, rfl⟩
  | _ => Option.none
noncomputable def PV.il? : (p : PV) → Option {i : List Int // p = .il i}
  | .il b => some ⟨b, rfl⟩
  | _ => Option.none
noncomputable def PV.str? : (p : PV) → Option {i : Str // p = .str i}
  | .str b => some ⟨b, rfl⟩
  | _ => Option.none
noncomputable def PV.ba? : (p : PV) → Option {i : List UInt8 // p = .ba i}
  | .ba b => some ⟨b, rfl⟩
  | _ => Option.none
theorem Rep.at {H : List Addr} {h : Heap} {p q : PV} {v : Value} (r : Rep H h p v) (e : p = q) : Rep H h q v := e ▸ r

/-- what a step of the evaluation hands on -/
noncomputable def Gives' (H : List Addr) (s : Shared) (r : PV) (Q : Value → Shared → Prop) : Prop :=
  ∀ (v : Value) (h' : Heap) (tk : Nat), s.heap.StaysIn h' → Rep H h' r v → Q v ⟨h', s.gens, s.drawn, tk, s.os⟩
theorem stays_refl (h : Heap) : h.StaysIn h := fun _ _ e => e
theorem stays_trans {a b c : Heap} (x : a.StaysIn b) (y : b.StaysIn c) : a.StaysIn c := fun q o e => y q o (x q o e)
theorem stays_push (h : Heap) (o : Obj) : h.StaysIn (h.push o) := fun _ _ e => Heap.get?_push_of_some _ e
theorem Gives'.int {H : List Addr} {s : Shared} {i : Int} {Q : Value → Shared → Prop} (h : Gives' H s (.int i) Q) (t : Tok) (tk : Nat) : Q (.int i t) ⟨s.heap, s.gens, s.drawn, tk, s.os⟩ := h _ _ _ (stays_refl _) ⟨t, rfl⟩
theorem Gives'.bytes {H : List Addr} {s : Shared} {i : List UInt8} {Q : Value → Shared → Prop} (h : Gives' H s (.bytes i) Q) (t : Tok) (tk : Nat) : Q (.bytes i.toArray t) ⟨s.heap, s.gens, s.drawn, tk, s.os⟩ := h _ _ _ (stays_refl _) ⟨t, rfl⟩

noncomputable def small (a : Int) : Bool := match a with
  | .ofNat n => Nat.blt n 18446744073709551616
  | .negSucc _ => false
noncomputable def mulOk (a b : Int) : Cond := if small a then none else if small b then none else some (IntMulOk a b)
noncomputable def divOk (b : Int) : Cond := match b with
  | .ofNat (n + 1) => if Nat.blt n 1000000000 then none else some False
  | _ => some False
theorem divOk_use {b : Int} (h : (divOk b).holds) : b ≠ 0 ∧ b.natAbs < 1073741824 := by
  rcases b with (_ | n) | n
  · exact (show False from h).elim
  · replace h : (if Nat.blt n 1000000000 then none else some False : Cond).holds := h
    split at h
    · rename_i e
      have := Nat.le_of_ble_eq_true e
      exact ⟨fun q => (nomatch q), by show n + 1 < 1073741824; lia⟩
    · exact h.elim
  · exact (show False from h).elim
theorem small_use {a : Int} (h : small a = true) : Builtin.Int.intBits a ≤ 64 := by
  cases a with
  | ofNat n =>
    have h1 : n < 18446744073709551616 := Nat.le_of_ble_eq_true h
    exact intBits_le_64 (by show _ < (n : Int); lia) (by show (n : Int) < _; lia)
  | negSucc n => cases h
theorem mulOk_use {a b : Int} (h : (mulOk a b).holds) : IntMulOk a b := by
  unfold mulOk at h
  split at h
  · rename_i e; exact IntMulOk.of_left (small_use e)
  · split at h
    · rename_i e; exact IntMulOk.of_right (small_use e)
    · exact h
noncomputable def intOp (op : Operator) (x y : Int) : Option (Int × Cond) := match op with
  | .Add => some (x + y, none)
  | .Sub => some (x - y, none)
  | .Mult => some (x * y, mulOk x y)
  | .FloorDiv => some (x.fdiv y, divOk y)
  | .Mod => some (x.fmod y, divOk y)
  | .BitAnd => some (Builtin.bitAnd x y, none)
  | .BitOr => some (Builtin.bitOr x y, none)
  | .LShift => some (x * 2 ^ y.toNat, some (0 ≤ y ∧ y ≤ 1000000 ∧ x.natAbs < 2 ^ 64))
  | .RShift => some (x.fdiv (2 ^ y.toNat), some (0 ≤ y))
  | _ => none
noncomputable def isAdd : Operator → Bool
  | .Add => true
  | _ => false
theorem isAdd_eq {op : Operator} (h : isAdd op = true) : op = .Add := by cases op <;> first | rfl | cases h
noncomputable def evBin (op : Operator) (a b : PV) : Option (PV × Cond) :=
  alt (with_ a.int? fun x => with_ b.int? fun y => seq (intOp op x.1 y.1) fun r => some (.int r, none))
    (onlyIf (isAdd op) (with_ a.bytes? fun x => with_ b.bytes? fun y => some (.bytes (x.1 ++ y.1), some (x.1.length + y.1.length ≤ 16777216))))

section
variable {prog : Program} {w : World} {A : Around} {E : Value → Shared → Prop} {s : Shared} {H : List Addr} {Q : Value → Shared → Prop}
theorem intOp_ok {x y : Int} {t u : Tok} : ∀ op, Ok (intOp op x y) fun r => (∀ t tk, Q (.int r t) ⟨s.heap, s.gens, s.drawn, tk, s.os⟩) → wpAny (model prog w) A (binaryOp op (.int x t) (.int y u)) Q E s
  | .Add => .some fun _ h => P.add_int (h _ _)
  | .Sub => .some fun _ h => P.sub_int (h _ _)
  | .Mult => .some fun hc h => P.mul_int (h _ _) (mulOk_use hc)
  | .FloorDiv => .some fun hc h => PyProof.Rows.floordiv_int (divOk_use hc).1 (h _ _) (.inl (PyProof.noPylong_small (divOk_use hc).2))
  | .Mod => .some fun hc h => PyProof.Rows.mod_int' (divOk_use hc).1 (h _ _)
  | .BitAnd => .some fun _ h => PyProof.Rows.and_int (h _ _)
  | .BitOr => .some fun _ h => PyProof.Rows.or_int (h _ _)
  | .LShift => .some fun hc h => PyProof.Rows.lshift_int_small hc.1 hc.2.1 hc.2.2 (h _ _)
  | .RShift => .some fun hc h => PyProof.Rows.rshift_int hc (h _ _)
  | .MatMult | .Div | .Pow | .BitXor => .none

theorem evBin_ok {op : Operator} {a b : PV} {x y : Value} (ha : Rep H s.heap a x) (hb : Rep H s.heap b y) :
    Ok (evBin op a b) fun r => Gives' H s r Q → wpAny (model prog w) A (binaryOp op x y) Q E s := by
  refine .alt (.with_ fun i _ => .with_ fun j _ => ?_) (.onlyIf fun ho => .with_ fun i _ => .with_ fun j _ => .some fun hc h => ?_)
  · obtain ⟨t, rfl⟩ := ha.at i.2
    obtain ⟨u, rfl⟩ := hb.at j.2
    exact .seq (intOp_ok (Q := Q) op) fun r k => .some fun _ h => k fun t tk => h.int t tk
  · obtain ⟨t, rfl⟩ := ha.at i.2
    obtain ⟨u, rfl⟩ := hb.at j.2
    rw [isAdd_eq ho]
    refine KBy.add_bytes (by simp only [List.size_toArray]; exact hc) fun t' k => ?_
    rw [List.append_toArray]
    exact h.bytes t' k
end
end
end Nt

set_option Elab.async false
set_option maxRecDepth 100000
open PySem PySem.W PyProof.Rows PySem.Calls
namespace Nt
set_option genInjectivity false
set_option genSizeOf false

section
variable {M : Model} {A : Around} {E : Value → Shared → Prop} {s : Shared} {env : Env}
theorem wpR_val {α : Type} {t : Sem α} {Q Q' : α → Shared → Prop} (h : wpR M A t Q E s) (hQ : ∀ a s, Q a s → Q' a s) : wpR M A t Q' E s := wpR_mono h hQ fun _ _ x => x
theorem wpR_release {vs keep : List Value} {Q : Unit → Shared → Prop} (h : Q () s) : wpR M A (release vs keep) Q E s := wpR_of (wpAny_release' h)
theorem wpR_operate {vs : List Value} {m : Sem Value} {Q : Value → Shared → Prop} (h : wpR M A m Q E s) : wpR M A (operate vs m) Q E s := fun Γ p hΓ h1 h2 => by
  rw [Sem.wp_operate]; exact h Γ p hΓ h1 h2
theorem binR {l op r pos} {Q : Value → Shared → Prop} (h : wpR M A (eval l env) (fun a s₁ => wpR M A (eval r env) (fun b s₂ => wpR M A (binaryOp op a b) Q E s₂) E s₁) E s) :
    wpR M A (eval (.BinOp l op r pos) env) Q E s := by
  rw [eval_BinOp]
  exact wpR_bind (wpR_val h fun a s₁ h₁ => wpR_bind (wpR_holding (wpR_val h₁ fun b s₂ h₂ => wpR_bind (wpR_standAt (wpR_operate h₂)))))
theorem unR {op x pos} {Q : Value → Shared → Prop} (h : wpR M A (eval x env) (fun v s₁ => wpR M A (unaryOp op v) Q E s₁) E s) :
    wpR M A (eval (.UnaryOp op x pos) env) Q E s := by
  rw [eval_UnaryOp]
  exact wpR_bind (wpR_val h fun v s₁ h₁ => wpR_bind (wpR_standAt (wpR_holding h₁)))
theorem ifR {test body orelse pos} {Q : Value → Shared → Prop}
    (h : wpR M A (isTrue test env (eval test env)) (fun c s₂ => if c then wpR M A (eval body env) Q E s₂ else wpR M A (eval orelse env) Q E s₂) E s) :
    wpR M A (eval (.IfExp test body orelse pos) env) Q E s := by
  rw [eval_IfExp]
  refine wpR_bind (wpR_val h fun c s₂ h₂ => ?_)
  cases c <;> exact h₂
theorem subR {value slice pos} {Q : Value → Shared → Prop}
    (h : wpR M A (eval value env) (fun o s₁ => wpR M A (eval slice env) (fun i s₂ => wpR M A (subscriptTail value slice o i) Q E s₂) E s₁) E s) :
    wpR M A (eval (.Subscript value slice pos) env) Q E s := by
  rw [eval_Subscript]
  exact wpR_bind (wpR_val h fun o s₁ h₁ => wpR_bind (wpR_holding (wpR_val h₁ fun i s₂ h₂ => wpR_bind (wpR_standAt h₂))))
theorem sliceR {lower upper step : Option Expr} {p : Pos} {Q : Value → Shared → Prop}
    (h : wpR M A (evalPart lower env) (fun l s₁ => wpR M A (evalPart upper env) (fun u s₂ => wpR M A (evalPart step env) (fun st s₃ =>
      Q (.ref s₃.heap.objs.size) { s₃ with heap := s₃.heap.push { cls := .type "slice", data := .fields #[l, u, st] } }) E s₂) E s₁) E s) :
    wpR M A (eval (.Slice lower upper step p) env) Q E s := by
  rw [arm_eval_Slice]
  refine wpR_bind (wpR_val h fun l s₁ h₁ => wpR_bind (wpR_holding (wpR_val h₁ fun u s₂ h₂ => wpR_bind (wpR_holding (wpR_val h₂ fun st s₃ h₃ => ?_)))))
  exact wpR_of (wpAny_newObj_type h₃)
theorem splicedR_cons {x : Sem Value} {rest : List (Bool × Sem Value)} {Q : List Value → Shared → Prop}
    (h : wpR M A x (fun v s₁ => wpR M A (spliced rest) (fun vs s₂ => Q (v :: vs) s₂) E s₁) E s) : wpR M A (spliced ((false, x) :: rest)) Q E s := by
  rw [spliced]
  refine wpR_bind (wpR_val h fun v s₁ h₁ => ?_)
  simp only [Bool.false_eq_true, if_false]
  exact wpR_bind (wpR_pure (wpR_bind (wpR_holding (wpR_val h₁ fun vs s₂ h₂ => wpR_pure h₂))))
theorem tupR {elts : List Expr} {k : Nat} {pos : Pos} {Q : Value → Shared → Prop}
    (h : wpR M A (spliced (backTo pos (starEach elts env))) (fun vs s₁ => wpR M A (newTuple vs) Q E s₁) E s) : wpR M A (eval (.Tuple elts k pos) env) Q E s := by
  show wpR M A (do standAt pos; newTuple (← spliced (backTo pos (starEach elts env)))) Q E s
  exact wpR_bind (wpR_standAt (wpR_bind h))
theorem listR {elts : List Expr} {pos : Pos} {Q : Value → Shared → Prop}
    (h : wpR M A (spliced (backTo pos (starEach elts env))) (fun vs s₁ => wpR M A (newList vs) Q E s₁) E s) : wpR M A (eval (.List elts pos) env) Q E s := by
  show wpR M A (do standAt pos; newList (← spliced (backTo pos (starEach elts env)))) Q E s
  exact wpR_bind (wpR_standAt (wpR_bind h))

theorem cmpR {l op r pos whole} {Q : Bool → Shared → Prop}
    (h : wpR M A (eval l env) (fun a s₁ => wpR M A (eval r env) (fun b s₂ => wpR M A (compareOp op a b) (fun c s₃ => wpR M A (truthy c) Q E s₃) E s₂) E s₁) E s)
    (hm : behindInMarks op r = false) : wpR M A (isTrue (.Compare l [op] [r] pos) env whole) Q E s := by
  rw [isTrue_Compare1, markedBehindIn_of_false hm]
  exact wpR_bind (wpR_val h fun a s₁ h₁ => wpR_bind (wpR_holding (wpR_val h₁ fun b s₂ h₂ => wpR_bind (wpR_standAt (wpR_bind (wpR_operate (wpR_val h₂ fun c s₃ h₃ => wpR_holding h₃)))))))
theorem chainR {l op₁ op₂ r₁ r₂ pos whole} {Q : Bool → Shared → Prop}
    (h : wpR M A (eval l env) (fun a s₁ => wpR M A (eval r₁ env) (fun b s₂ => wpR M A (compareOp op₁ a b) (fun c s₃ => wpR M A (truthy c) (fun t s₄ =>
      if t then wpR M A (eval r₂ env) (fun b' s₂ => wpR M A (compareOp op₂ b b') (fun c s₃ => wpR M A (truthy c) Q E s₃) E s₂) E s₄ else Q false s₄) E s₃) E s₂) E s₁) E s)
    (hm : lastMarks [op₁, op₂] [r₁, r₂] = false) : wpR M A (isTrue (.Compare l [op₁, op₂] [r₁, r₂] pos) env whole) Q E s := by
  show wpR M A (do testChain pos (← eval l env) [op₁, op₂] (markedEach [op₁, op₂] [r₁, r₂] (evalEach [r₁, r₂] env))) Q E s
  rw [markedEach_of_false _ _ _ hm]
  refine wpR_bind (wpR_val h fun a s₁ h₁ => ?_)
  show wpR M A (do
    let rv ← holding [a] (eval r₁ env)
    standAt pos
    let c ← holding [a, rv] (compareOp op₁ a rv)
    release [a, rv] [c]
    if ← holding [c, rv] (truthy c) then (do
      let rv' ← holding [rv] (eval r₂ env)
      standAt pos
      let c ← operate [rv, rv'] (compareOp op₂ rv rv')
      holding [c] (truthy c)) else pure false) Q E s₁
  refine wpR_bind (wpR_holding (wpR_val h₁ fun b s₂ h₂ => wpR_bind (wpR_standAt (wpR_bind (wpR_holding (wpR_val h₂ fun c s₃ h₃ => wpR_bind (wpR_release (wpR_bind (wpR_holding (wpR_val h₃ fun t s₄ h₄ => ?_))))))))))
  cases t with
  | false => exact wpR_pure h₄
  | true => exact wpR_bind (wpR_holding (wpR_val h₄ fun b' s₂ h₂ => wpR_bind (wpR_standAt (wpR_bind (wpR_operate (wpR_val h₂ fun c s₃ h₃ => wpR_holding h₃))))))
theorem notR {x pos whole} {Q : Bool → Shared → Prop} (h : wpR M A (isTrue x env (eval x env)) (fun c s' => Q (!c) s') E s) :
    wpR M A (isTrue (.UnaryOp .Not x pos) env whole) Q E s := by
  show wpR M A (do return !(← isTrue x env (eval x env))) Q E s
  exact wpR_bind (wpR_val h fun c s' h' => wpR_pure h')
theorem andR_nil {pos whole} {Q : Bool → Shared → Prop} (h : Q true s) : wpR M A (isTrue (.BoolOp .And [] pos) env whole) Q E s := wpR_pure (a := true) h
theorem orR_nil {pos whole} {Q : Bool → Shared → Prop} (h : Q false s) : wpR M A (isTrue (.BoolOp .Or [] pos) env whole) Q E s := wpR_pure (a := false) h
theorem andR {x rest pos whole} {Q : Bool → Shared → Prop}
    (h : wpR M A (isTrue x env (eval x env)) (fun c s' => if c then wpR M A (isTrue (.BoolOp .And rest pos) env whole) Q E s' else Q false s') E s) :
    wpR M A (isTrue (.BoolOp .And (x :: rest) pos) env whole) Q E s := by
  show wpR M A (do
    match BoolOp.And, ← isTrue x env (eval x env) with
    | .And, false => pure false
    | .Or, true => pure true
    | _, _ => allTrue .And rest env) Q E s
  refine wpR_bind (wpR_val h fun c s' h' => ?_)
  cases c with
  | false => exact wpR_pure h'
  | true => exact h'
theorem orR {x rest pos whole} {Q : Bool → Shared → Prop}
    (h : wpR M A (isTrue x env (eval x env)) (fun c s' => if c then Q true s' else wpR M A (isTrue (.BoolOp .Or rest pos) env whole) Q E s') E s) :
    wpR M A (isTrue (.BoolOp .Or (x :: rest) pos) env whole) Q E s := by
  show wpR M A (do
    match BoolOp.Or, ← isTrue x env (eval x env) with
    | .And, false => pure false
    | .Or, true => pure true
    | _, _ => allTrue .Or rest env) Q E s
  refine wpR_bind (wpR_val h fun c s' h' => ?_)
  cases c with
  | false => exact h'
  | true => exact wpR_pure h'

theorem callWithR {pos : Pos} {f : Value} {first : List Value} {args : List (Bool × Sem Value)} {Q : Value → Shared → Prop} {P : Heap → Prop} (hplain : args.any (·.1) = false)
    (hk : ∀ h, P h → ∃ k, (k = Keeper.frame ∨ k = Keeper.machine ∨ k = Keeper.boundFrame) ∧ Looks M h (keeperOf f) k)
    (h : wpR M A (spliced args) (fun vs s₁ => P s₁.heap ∧ wpR M A (call f (first ++ vs)) Q E s₁) E s) : wpR M A (callWith pos f first args []) Q E s := by
  have ha : wpR M A (evalArgs f true args []) (fun (a : Args) s₁ => P s₁.heap ∧ wpR M A (call f (first ++ a.pos) a.kw) Q E s₁) E s := by
    have key : ∀ as : List (Bool × Sem Value), as.any (·.1) = false → wpR M A (spliced as) (fun vs s₁ => P s₁.heap ∧ wpR M A (call f (first ++ vs)) Q E s₁) E s →
        wpR M A (evalArgs f true as []) (fun (a : Args) s₁ => P s₁.heap ∧ wpR M A (call f (first ++ a.pos) a.kw) Q E s₁) E s := by
      intro as hp h
      match as, hp, h with
      | [], _, h =>
        unfold evalArgs
        show wpR M A (spliced [] >>= _) _ E s
        refine wpR_bind (wpR_val h fun vs s₁ h₁ => ?_)
        refine wpR_bind (wpR_pure (wpR_holding ?_))
        exact wpR_bind (wpR_pure (wpR_bind (wpR_pure (wpR_pure h₁))))
      | [(false, x)], _, h =>
        unfold evalArgs
        show wpR M A (spliced [(false, x)] >>= _) _ E s
        refine wpR_bind (wpR_val h fun vs s₁ h₁ => ?_)
        refine wpR_bind (wpR_pure (wpR_holding ?_))
        exact wpR_bind (wpR_pure (wpR_bind (wpR_pure (wpR_pure h₁))))
      | (false, x) :: y :: ys, _, h =>
        unfold evalArgs
        show wpR M A (spliced ((false, x) :: y :: ys) >>= _) _ E s
        refine wpR_bind (wpR_val h fun vs s₁ h₁ => ?_)
        refine wpR_bind (wpR_pure (wpR_holding ?_))
        exact wpR_bind (wpR_pure (wpR_bind (wpR_pure (wpR_pure h₁))))
      | (true, x) :: xs, e, _ => simp at e
    exact key args hplain h
  unfold callWith
  refine wpR_bind (wpR_holding (wpR_val ha fun a s₁ h₁ => wpR_bind (wpR_standAt ?_)))
  obtain ⟨k, hk', L⟩ := hk _ h₁.1
  rw [hplain, show (false || ([] : List (Option Str × Sem Value)).any (·.1.isNone)) = false from rfl]
  refine wpR_bindA (L.here ?_)
  have tail : ∀ {t : Sem Value}, wpR M A t Q E s₁ → wpR M A (t >>= fun r => holding [r] point >>= fun _ => pure r) Q E s₁ :=
    fun ht => wpR_bind (wpR_val ht fun r s₂ hr => wpR_bind (wpR_holding (wpR_point (wpR_pure hr))))
  have marked (mk : Value) : wpR M A (callMarked mk f (first ++ a.pos) a.kw) Q E s₁ := by unfold callMarked; exact wpR_keep h₁.2
  rcases hk' with rfl | rfl | rfl <;> dsimp only <;> first | exact tail h₁.2 | (split <;> first | exact tail h₁.2 | exact tail (marked _))
theorem callNameR {id : Str} {p pos : Pos} {args : List Expr} {Q : Value → Shared → Prop}
    (h : wpR M A (eval (.Name id p) env) (fun f s₁ => wpR M A (callWith pos f [] (backTo pos (starEach args env)) []) Q E s₁) E s) :
    wpR M A (eval (.Call (.Name id p) args [] pos) env) Q E s := by
  rw [arm_eval_Call_Name']
  exact wpR_bind (wpR_val h fun f s₁ h₁ => h₁)
theorem methodR {o : Expr} {name : Str} {apos pos : Pos} {args : List Expr} {pl : Sem Bool} {Q : Value → Shared → Prop}
    (h : wpR M A (eval o env) (fun ov s₁ => wpAny M A (getMethod ov name pl) (fun fx s₂ => wpR M A (callWith pos fx.1 fx.2 (backTo pos (starEach args env)) []) Q E s₂) E s₁) E s)
    (he : eval (.Call (.Attribute o name apos) args [] pos) env = (do
      let ov ← eval o env
      standAt apos.atName
      let (f, first) ← holding [ov] (getMethod ov name pl)
      callWith pos f first (backTo pos (starEach args env)) [])) :
    wpR M A (eval (.Call (.Attribute o name apos) args [] pos) env) Q E s := by
  rw [he]
  exact wpR_bind (wpR_val h fun ov s₁ h₁ => wpR_bind (wpR_standAt (wpR_bind (wpR_holding (wpR_of (wpAny_mono h₁ (fun fx s₂ h₂ => h₂) fun _ _ x => x))))))
end
end Nt

set_option Elab.async false
set_option maxRecDepth 100000
open PySem PySem.W PyProof.Rows PySem.Calls
namespace Nt
set_option genInjectivity false
set_option genSizeOf false

section
variable {prog : Program} {w : World} {A : Around} {E : Value → Shared → Prop} {s : Shared} {env : Env}

noncomputable def compPostR (M : Model) (A : Around) (E : Value → Shared → Prop) (use : Option (Value → Sem Unit)) (Q : Value → Shared → Prop) (acc : Value) (C : Addr) (r : Result) (s' : Shared) : Prop :=
  match r with
  | .ok _ => (match use with
    | none => ∃ m, s'.heap.Ns C m ∧ ∀ h', Heap.SameBut C s'.heap h' → Q acc { s' with heap := h' }
    | some u => wpAny M A (u acc) (fun _ s'' => ∃ m, s''.heap.Ns C m ∧ ∀ h', Heap.SameBut C s''.heap h' → Q .none { s'' with heap := h' }) E s')
  | .error _ => False

theorem compR {e : Expr} {scope : Scope} {pos : Pos} {newAcc first : Sem Value} {g : Comprehension} {gs : List Comprehension} {cl : List (Str × Addr)} {use : Option (Value → Sem Unit)}
    {Q : Value → Shared → Prop}
    (hcl : clausesOf e = g :: gs) (hs : ∀ x, foldedSetIterable g.iter env x = pure x) (hclos : closureFor scope env = pure cl)
    (hkind : scope.kind = .function) (hnames : ∀ x ∈ scope.names, x.2 = .local → scope.names.lookup x.1 = some .local)
    (h : wpR (model prog w) A first (fun x s₁ => wpAny (model prog w) A (pyIter x) (fun it s₂ => wpAny (model prog w) A newAcc (fun acc s₃ =>
      wpAny (model prog w) A (newFunctionEnv scope env.globals cl [] env.qual none .none (some env)) (fun cenv s₄ =>
        codeR (model prog w) A (.compStart e 0 it acc { cenv with scope := relabel scope env }) (compPostR (model prog w) A E use Q acc cenv.locals) s₄) E s₃) E s₂) E s₁) E s) :
    wpR (model prog w) A (comprehension e scope env pos newAcc false first use) Q E s := by
  unfold comprehension
  rw [hclos, hcl]
  refine wpR_bind (wpR_val h fun x s₁ h₁ => wpR_bind (wpR_standAt (wpR_bind (wpR_of_eq (hs x) (wpR_bind (wpR_holding (wpR_of (wpAny_mono h₁ (fun it s₂ h₂ => ?_) fun _ _ x => x))))))))
  have fin : wpR (model prog w) A (do
      let acc ← newAcc
      let cenv ← newFunctionEnv scope env.globals (← pure cl) [] env.qual none .none (some env)
      let own (n : Str) (k : NameKind) := k == .free && env.scope.kind == .function && env.kindOf n == some .cell
      let cenv := { cenv with scope := { scope with names := scope.names.map fun (n, k) => if own n k then (n, .cell) else (n, k) } }
      let vars := scope.names.filter fun (n, k) => (k == .local || k == .cell) && n != (".0" : Str)
      let cellOf? (n : Str) : List Value := ((cenv.cells.lookup n).map Value.ref).toList
      let cellsOf (vs : List (Str × NameKind)) : List Value := vs.flatMap fun (n, k) => if k == .cell then cellOf? n else []
      holding [.ref cenv.locals] do
        match ← (holding (acc :: cellsOf vars) (run (.compStart e 0 it acc cenv))).attempt, use with
        | .ok _, none => holding [acc] (comprehension.letGo cenv cellsOf vars.reverse); pure acc
        | .ok _, some u =>
          rule "comprehension.stores-exchanged"
          holding (cellsOf vars) (u acc)
          comprehension.letGo cenv cellsOf (vars.reverse.drop 1 ++ vars.reverse.take 1)
          pure .none
        | .error x, _ => holding [x] (comprehension.letGo cenv cellsOf vars.reverse); passOn "comprehension.variables-let-go" x cenv) Q E s₂ := by
    refine wpR_bindA (wpAny_mono h₂ (fun acc s₃ h₃ => wpR_bind (wpR_pure (wpR_bindA (wpAny_mono h₃ (fun cenv s₄ h₄ => ?_) fun _ _ h' => h')))) fun _ _ h' => h')
    dsimp only
    have hv : ∀ x ∈ (scope.names.filter fun x => (x.2 == .local || x.2 == .cell) && x.1 != (".0" : Str)).reverse, x.2 = .local →
        Env.kindOf { cenv with scope := relabel scope env } x.1 = some .local := fun x hx hl => lookup_relabel_local (hnames x (List.mem_filter.mp (List.mem_reverse.mp hx)).1 hl)
    have hv' : ∀ x ∈ (scope.names.filter fun x => (x.2 == .local || x.2 == .cell) && x.1 != (".0" : Str)).reverse.drop 1 ++ (scope.names.filter fun x => (x.2 == .local || x.2 == .cell) && x.1 != (".0" : Str)).reverse.take 1,
        x.2 = .local → Env.kindOf { cenv with scope := relabel scope env } x.1 = some .local := fun x hx hl => by
      rcases List.mem_append.mp hx with h1 | h1
      · exact hv x (List.mem_of_mem_drop h1) hl
      · exact hv x (List.mem_of_mem_take h1) hl
    refine wpR_holding (wpR_bind (wpR_attempt (wpR_holding (wpR_run (codeR_mono h₄ fun r s' hr => ?_)))))
    cases r with
    | ok f =>
      cases use with
      | none =>
        obtain ⟨m, hn, hr⟩ := hr
        exact wpR_bindA (wpAny_holding (wpAny_comp_letGo (cenv := { cenv with scope := relabel scope env }) hkind _ s' m hv hn fun h' m' _ hs' => wpR_pure (hr h' hs')))
      | some u =>
        refine wpR_bindA (wpAny_rule (wpR_bindA (wpAny_holding (wpAny_mono hr (fun _ s'' hr' => ?_) fun _ _ h' => h'))))
        obtain ⟨m, hn, hr'⟩ := hr'
        exact wpR_bindA (wpAny_comp_letGo (cenv := { cenv with scope := relabel scope env }) hkind _ s'' m hv' hn fun h' m' _ hs' => wpR_pure (hr' h' hs'))
    | error x => exact hr.elim
  cases use with
  | none => exact fin
  | some u => exact wpR_bind (wpR_standAt fin)

theorem compLoopR {elt target iter : Expr} {ifs : List Expr} {scope : Scope} {pos : Pos} {it acc : Value} {R : Result → Shared → Prop} (I : Nat → Shared → Prop)
    (turn : ∀ n s, I n s → wpAny (model prog w) A (pyNext it) (fun r s₁ => match r with
      | none => R (.ok .next) s₁
      | some v => wpAny (model prog w) A (assign target env v) (fun _ s₂ =>
          wpR (model prog w) A (forIn ifs true fun c r => if r = true then do let ok ← isTrue c env (eval c env); pure (ForInStep.yield ok) else pure (ForInStep.yield r)) (fun ok s₃ =>
            if ok = true then wpR (model prog w) A (eval elt env) (fun x s₄ =>
              wpAny (model prog w) A (call (.builtin "list.append") [acc, x]) (fun _ s₅ => ∃ m, m < n ∧ I m s₅) (fun _ _ => False) s₄) (fun _ _ => False) s₃
            else ∃ m, m < n ∧ I m s₃) (fun _ _ => False) s₂) (fun _ _ => False) s₁) (fun _ _ => False) s)
    (n : Nat) (h : I n s) (ht : ∀ v, letOwnedTupleGo target it v = pure ()) :
    codeR (model prog w) A (.compLoop (.ListComp elt [⟨target, iter, ifs, 0⟩] scope pos) 0 it acc env) R s := by
  refine codeR_loop rfl (fun _ _ => rfl) I (fun n s hI => ?_) n h
  show wpR _ A ((compTurn (.ListComp elt [⟨target, iter, ifs, 0⟩] scope pos) 0 it acc env).onRaise (fun x => do noteFrame x env; theTreesLotGoes x)) _ _ s
  refine wpR_onRaise (wpR_mono (E := fun _ _ => False) ?_ (fun _ _ x => x) fun _ _ x => x.elim)
  rw [compTurn_list]
  refine wpR_bind (wpR_standAt (wpR_bindA (wpAny_mono (turn n s hI) (fun r s₁ h₁ => ?_) fun _ _ h' => h')))
  cases r with
  | none => exact wpR_pure h₁
  | some v =>
    refine wpR_bind (wpR_of_eq (ht v) ?_)
    refine wpR_bindA (wpAny_mono h₁ (fun _ s₂ h₂ => wpR_bind (wpR_val h₂ fun ok s₃ h₃ => ?_)) fun _ _ h' => h')
    cases ok with
    | false => exact wpR_pure (.inl ⟨rfl, h₃⟩)
    | true =>
      exact wpR_bind (wpR_bind (wpR_val h₃ fun x s₄ h₄ => wpR_bindA (wpAny_mono h₄ (fun _ s₅ h₅ => wpR_pure (wpR_pure (.inl ⟨rfl, h₅⟩))) fun _ _ h' => h')))

theorem compStartR {elt target iter ifs rest scope pos it acc} {R : Result → Shared → Prop}
    (h0 : codeR (model prog w) A (.compLoop (.ListComp elt (⟨target, iter, ifs, 0⟩ :: rest) scope pos) 0 it acc env) R s)
    (h : wpAny (model prog w) A (pyIter it) (fun it' s' => codeR (model prog w) A (.compLoop (.ListComp elt (⟨target, iter, ifs, 0⟩ :: rest) scope pos) 0 it' acc env) R s') (fun _ _ => False) s) :
    codeR (model prog w) A (.compStart (.ListComp elt (⟨target, iter, ifs, 0⟩ :: rest) scope pos) 0 it acc env) R s := by
  refine codeR_of_tree (fun _ _ => rfl) ?_
  show wpR _ _ ((compStart (.ListComp elt (⟨target, iter, ifs, 0⟩ :: rest) scope pos) 0 it acc env).onRaise (fun x => do noteFrame x env; standAt theWindowsPlace)) _ _ s
  refine wpR_onRaise (wpR_mono (E := fun _ _ => False) ?_ (fun _ _ x => x) fun _ _ x => x.elim)
  unfold compStart
  show wpR _ _ (ask >>= _) _ _ s
  refine wpR_bindA (wpAny_askSetting ?_)
  split
  · first
      | exact wpR_bind (wpR_pure (wpR_pure (And.intro rfl h0)))
      | exact wpR_pure (And.intro rfl h0)
  · first
      | exact wpR_bindA (wpAny_rule (wpR_bind (wpR_standAt (wpR_bindA (wpAny_mono h (fun it' s' h' => wpR_pure (And.intro rfl h')) fun _ _ x => x)))))
      | (refine wpR_bindA (wpAny_rule ?_); show wpR _ _ (standAt iter.pos >>= _) _ _ s; exact wpR_bind (wpR_standAt (wpR_bindA (wpAny_mono h (fun it' s' h' => wpR_pure (And.intro rfl h')) fun _ _ x => x))))
end
end Nt

set_option Elab.async false
set_option maxRecDepth 100000
open PySem PySem.W PyProof.Rows PySem.Calls
namespace Nt
set_option genInjectivity false
set_option genSizeOf false

/-- a value stands for a PV at every heap -/
noncomputable def Rp (p : PV) (v : Value) : Prop := ∀ H h, Rep H h p v
theorem Rp.of {p : PV} {v : Value} {H : List Addr} {h : Heap} (i : p.imm = true) (r : Rep H h p v) : Rp p v := fun _ _ => r.any i
noncomputable def Rps : List PV → List Value → Prop
  | [], vs => vs = []
  | p :: ps, vs => ∃ v r, vs = v :: r ∧ Rp p v ∧ Rps ps r
theorem Rps.snoc {p : PV} {v : Value} (h : Rp p v) : ∀ {ps : List PV} {vs : List Value}, Rps ps vs → Rps (ps ++ [p]) (vs ++ [v])
  | [], _, rfl => ⟨v, [], rfl, h, rfl⟩
  | _ :: _, _, ⟨u, r, rfl, a, b⟩ => ⟨u, r ++ [v], rfl, a, b.snoc h⟩
theorem Rps.length : ∀ {ps : List PV} {vs : List Value}, Rps ps vs → vs.length = ps.length
  | [], _, rfl => rfl
  | _ :: _, _, ⟨_, _, rfl, _, b⟩ => congrArg (· + 1) b.length

/-- a value walks through these, and makes its iterator anew -/
noncomputable def Iter (prog : Program) (w : World) (A : Around) (xv : Value) (s₁ : Shared) (qs : List PV) : Prop :=
  ∀ (Q : Value → Shared → Prop) (E : Value → Shared → Prop),
    (∀ I fp wr P St h tk, Walks prog w A I fp wr qs.length P St → (∀ i v, P i v → ∃ q, qs[i]? = some q ∧ Rp q v) → St 0 h → (∀ b ∈ fp, b < h.objs.size) → (∀ b ∈ wr, s₁.heap.get? b = none) →
      s₁.heap.StaysIn h → (∀ i h, St i h → (∃ o vs, h.get? I = some o ∧ o.data = .fields vs ∧ o.cls ≠ .type "range") ∧ ∀ b ∈ fp, ∃ o, h.get? b = some o ∧ ∀ es ep, o.data ≠ .dict es ep) → (∀ b ∈ fp, b = I ∨ (xv = .ref b ∧ ∃ items, s₁.heap.IsList b items)) → wr = [I] → Q (.ref I) ⟨h, s₁.gens, s₁.drawn, tk, s₁.os⟩) → wpAny (model prog w) A (pyIter xv) Q E s₁

theorem filter_take {p : PV → Bool} {qs : List PV} {i : Nat} {q : PV} (h : qs[i]? = some q) : (qs.take (i + 1)).filter p = (qs.take i).filter p ++ (if p q then [q] else []) := by
  have e : qs.take (i + 1) = qs.take i ++ [q] := by rw [List.take_add_one, h]; rfl
  rw [e, List.filter_append]
  congr 1
  cases hp : p q <;> simp [hp]

section
variable {prog : Program} {w : World} {A : Around} {E : Value → Shared → Prop} {s : Shared} {env : Env}

/-- what the tests and the element answer, on every turn -/
structure Turn (prog : Program) (w : World) (A : Around) (env : Env) (scope : Scope) (cl : List (Str × Addr)) (x : Str) (ifs : List Expr) (elt : Expr) (qs : List PV) (p : PV → Bool) (F : PV → PV) (h₁ : Heap) : Prop where
  tests : ∀ C m q v (s₃ : Shared) (Q : Bool → Shared → Prop), q ∈ qs → h₁.StaysIn s₃.heap → h₁.get? C = none → s₃.heap.Ns C m → m x = some v → Rp q v →
    (∀ h' tk, s₃.heap.StaysIn h' → Q (p q) ⟨h', s₃.gens, s₃.drawn, tk, s₃.os⟩) →
    wpR (model prog w) A (forIn ifs true fun c r => if r = true then do let ok ← isTrue c (compEnvC scope cl C env) (eval c (compEnvC scope cl C env)); pure (ForInStep.yield ok) else pure (ForInStep.yield r)) Q (fun _ _ => False) s₃
  elt : ∀ C m q v (s₃ : Shared) (Q : Value → Shared → Prop), q ∈ qs → p q = true → h₁.StaysIn s₃.heap → h₁.get? C = none → s₃.heap.Ns C m → m x = some v → Rp q v →
    (∀ y h' tk, s₃.heap.StaysIn h' → Rp (F q) y → Q y ⟨h', s₃.gens, s₃.drawn, tk, s₃.os⟩) →
    wpR (model prog w) A (eval elt (compEnvC scope cl C env)) Q (fun _ _ => False) s₃

theorem compWalkR {elt iter : Expr} {x : Str} {px : Pos} {ifs : List Expr} {scope : Scope} {cl : List (Str × Addr)} {pos : Pos} {qs : List PV} {p : PV → Bool} {F : PV → PV} {h₁ : Heap} {I C D : Addr} {fp wr : List Addr} {P : Nat → Value → Prop} {St : Nat → Heap → Prop}
    {R : Result → Shared → Prop} {m : Str → Option Value} (T : Turn prog w A env scope cl x ifs elt qs p F h₁)
    (W : Walks prog w A I fp wr qs.length P St) (hP : ∀ i v, P i v → ∃ q, qs[i]? = some q ∧ Rp q v) (hw : ∀ b ∈ wr, h₁.get? b = none)
    (hx : scope.names.lookup x = some .local) (hkind : scope.kind = .function) (hC : h₁.get? C = none) (hD : h₁.get? D = none) (hDC : D ≠ C) (hDf : D ∉ fp) (hCf : C ∉ fp)
    (hst : St 0 s.heap) (hacc : s.heap.PlainList D #[]) (hn : s.heap.Ns C m) (hk : h₁.StaysIn s.heap) (hsz : qs.length ≤ sizeLine)
    (hR : ∀ h' tk m' ys, h'.Ns C m' → h'.PlainList D (List.toArray ys) → Rps ((qs.filter p).map F) ys → h₁.StaysIn h' → R (.ok .next) ⟨h', s.gens, s.drawn, tk, s.os⟩) :
    codeR (model prog w) A (.compLoop (.ListComp elt [⟨.Name x px, iter, ifs, 0⟩] scope pos) 0 (.ref I) (.ref D) (compEnvC scope cl C env)) R s := by
  refine compLoopR (fun k s' => ∃ h' tk m' ys i, s' = ⟨h', s.gens, s.drawn, tk, s.os⟩ ∧ St i h' ∧ h'.PlainList D (List.toArray ys) ∧ h'.Ns C m' ∧ Rps (((qs.take i).filter p).map F) ys ∧ i ≤ qs.length ∧ k = qs.length + 1 - i ∧ h₁.StaysIn h') ?_ (qs.length + 1)
    ⟨s.heap, s.toks, m, [], 0, rfl, hst, hacc, hn, rfl, Nat.zero_le _, rfl, hk⟩ (fun _ => rfl)
  rintro k s' ⟨H, tk, m', ys, i, rfl, hst', hacc', hn', hF, hi, rfl, hk'⟩
  have hCw : C ∉ wr := fun h => hCf (W.sub _ h)
  have hDw : D ∉ wr := fun h => hDf (W.sub _ h)
  have hx' : (compEnvC scope cl C env).kindOf x = some .local := lookup_relabel_local hx
  have hp' : ((compEnvC scope cl C env).scope.kind == .class || ((compEnvC scope cl C env).scope.kind == .module && (compEnvC scope cl C env).locals != (compEnvC scope cl C env).globals)) = false := by simp [compEnvC, relabel, hkind]
  by_cases hlt : i < qs.length
  · refine W.item i _ _ _ hlt hst' fun v h₂ tk₁ hPv hst₁ hk₁ => ?_
    obtain ⟨q, hq, hqv⟩ := hP i v hPv
    have hqm : q ∈ qs := List.mem_of_getElem? hq
    refine wpAny_assign_Name (wpAny_storeName_local hx' (hn'.at' fun o e => hk₁ _ o hCw e) (fun h₃ hn₃ hs₃ => ?_) hp')
    have up₃ : h₁.StaysIn h₃ := fun b o e => hs₃.extBut b o (by rintro rfl; rw [hC] at e; cases e) (hk₁ b o (fun hb => by rw [hw b hb] at e; cases e) (hk' b o e))
    have hst₃ : St (i + 1) h₃ := W.frame _ _ _ hst₁ fun b hb o e => hs₃.extBut b o (fun h => hCf ((show b = C from h) ▸ hb)) e
    have hacc₃ : h₃.PlainList D (List.toArray ys) := hacc'.at fun o e => hs₃.extBut _ o hDC (hk₁ _ o hDw e)
    refine T.tests C _ q v _ _ hqm up₃ hC hn₃ (by simp) hqv fun h₄ tk₄ hk₄ => ?_
    have e1 := filter_take (p := p) hq
    cases hpq : p q with
    | false =>
      simp only [Bool.false_eq_true, if_false]
      refine ⟨qs.length + 1 - (i + 1), by lia, h₄, tk₄, _, ys, i + 1, rfl, W.frame _ _ _ hst₃ fun b _ o e => hk₄ b o e, hacc₃.at fun o e => hk₄ _ o e, hn₃.keeps hk₄, ?_, hlt, rfl, stays_trans up₃ hk₄⟩
      rw [e1, hpq]; simpa using hF
    | true =>
      simp only [if_true]
      refine T.elt C _ q v _ _ hqm hpq (stays_trans up₃ hk₄) hC (hn₃.keeps hk₄) (by simp) hqv fun y h₅ tk₅ hk₅ hy => ?_
      have hys : ys.toArray.size ≤ sizeLine := by
        have e2 := hF.length
        have e3 : ((qs.take i).filter p).length ≤ (qs.take i).length := List.length_filter_le _ _
        rw [List.length_map] at e2
        rw [List.length_take] at e3
        rw [List.size_toArray]
        lia
      refine wpAny_list_append_plain (hsz := hys) (hacc₃.at fun o e => hk₅ _ o (hk₄ _ o e)) fun h₆ hl₆ hs₆ => ?_
      refine ⟨qs.length + 1 - (i + 1), by lia, h₆, tk₅, _, ys ++ [y], i + 1, rfl, W.frame _ _ _ hst₃ fun b hb o e => hs₆.extBut b o (fun h => hDf (h ▸ hb)) (hk₅ b o (hk₄ b o e)), by simpa using hl₆, ((hn₃.keeps hk₄).keeps hk₅).sameBut hs₆ (Ne.symm hDC), ?_, hlt, rfl,
        fun b o e => hs₆.extBut b o (by rintro rfl; rw [hD] at e; cases e) (hk₅ b o (hk₄ b o (up₃ b o e)))⟩
      rw [e1, hpq]
      simpa using hF.snoc hy
  · have hin : i = qs.length := by lia
    subst hin
    refine W.done _ _ _ hst' fun h₂ tk₁ hk₁ => ?_
    refine hR h₂ tk₁ m' ys (hn'.at' fun o e => hk₁ _ o hCw e) (hacc'.at fun o e => hk₁ _ o hDw e) ?_ fun b o e => hk₁ b o (fun hb => by rw [hw b hb] at e; cases e) (hk' b o e)
    rwa [List.take_length] at hF

theorem listCompR {elt iter : Expr} {x : Str} {px : Pos} {ifs : List Expr} {scope : Scope} {cl : List (Str × Addr)} {pos pos2 : Pos} {use : Option (Value → Sem Unit)} {Q : Value → Shared → Prop}
    (hs : ∀ x, foldedSetIterable iter env x = pure x) (hclos : closureFor scope env = pure cl) (hcell : ∀ y ∈ scope.names, y.2 ≠ .cell) (hkind : scope.kind = .function)
    (hnames : ∀ y ∈ scope.names, y.2 = .local → scope.names.lookup y.1 = some .local) (hx : scope.names.lookup x = some .local)
    (h : wpR (model prog w) A (eval iter env) (fun xv s₁ => ∃ qs p F, Iter prog w A xv s₁ qs ∧ qs.length ≤ sizeLine ∧ Turn prog w A env scope cl x ifs elt qs p F s₁.heap ∧
      (∀ D C h' tk m ys, s₁.heap.get? C = none → s₁.heap.get? D = none → D ≠ C → s₁.heap.StaysIn h' → h'.PlainList D (List.toArray ys) → Rps ((qs.filter p).map F) ys → h'.Ns C m → compPostR (model prog w) A E use Q (.ref D) C (.ok .next) ⟨h', s₁.gens, s₁.drawn, tk, s₁.os⟩)) E s) :
    wpR (model prog w) A (comprehension (.ListComp elt [⟨.Name x px, iter, ifs, 0⟩] scope pos) scope env pos2 (newList []) false (eval iter env) use) Q E s := by
  refine compR (g := ⟨.Name x px, iter, ifs, 0⟩) (gs := []) rfl hs hclos hkind hnames (wpR_val h fun xv s₁ h₁ => ?_)
  refine cps fun Z fin => ?_
  obtain ⟨qs, p, F, hit, hsz, T, hQ⟩ := h₁
  refine fin ?_
  refine hit _ _ fun I fp wr P St h₂ tk₂ W hP hst hfp hw hk₂ _ _ _ => ?_
  refine wpAny_newObj_type (wpAny_newFunctionEnv hcell (by intro y hy; simp at hy) (fun h₁ hns₁ hsb₁ => ?_) hkind)
  dsimp only at hns₁ hsb₁ ⊢
  generalize hH2 : h₂.push { cls := .type "list", dict := none, data := .seq ([] : List Value).toArray } = H2 at hns₁ hsb₁ ⊢
  have hC : H2.objs.size = h₂.objs.size + 1 := by rw [← hH2, Heap.size_push]
  have hDC : h₂.objs.size ≠ H2.objs.size := by rw [hC]; exact Nat.ne_of_lt (Nat.lt_succ_self _)
  have hDf : h₂.objs.size ∉ fp := fun hm => Nat.lt_irrefl _ (hfp _ hm)
  have hCf : H2.objs.size ∉ fp := fun hm => by have := hfp _ hm; rw [hC] at this; exact Nat.lt_irrefl _ (Nat.lt_of_succ_lt this)
  have below : ∀ b, b < h₂.objs.size → b ≠ H2.objs.size := fun b hb => by rw [hC]; exact Nat.ne_of_lt (Nat.lt_succ_of_lt hb)
  have old : h₂.StaysIn h₁ := fun b o e => hsb₁.extBut b o (below b (Heap.lt_size e)) (Heap.get?_push_of_some _ (hH2 ▸ Heap.get?_push_of_some _ e))
  have hacc : h₁.PlainList h₂.objs.size #[] := ⟨_, hsb₁.extBut _ _ hDC (Heap.get?_push_of_some _ (hH2 ▸ Heap.get?_push_size _ rfl))⟩
  have hst₁ : St 0 h₁ := W.frame _ _ _ hst fun b _ o e => old b o e
  have fresh : ∀ a, h₂.objs.size ≤ a → s₁.heap.get? a = none := fun a ha => by
    cases e : s₁.heap.get? a with
    | none => rfl
    | some o' => exact absurd (Heap.lt_size (hk₂ a o' e)) (Nat.not_lt.mpr ha)
  have loop : ∀ s₃ : Shared, s₃.heap = h₁ → s₃.gens = s₁.gens → s₃.drawn = s₁.drawn → s₃.os = s₁.os →
      codeR (model prog w) A (.compLoop (.ListComp elt [⟨.Name x px, iter, ifs, 0⟩] scope pos) 0 (.ref I) (.ref h₂.objs.size) (compEnvC scope cl H2.objs.size env))
        (compPostR (model prog w) A E use Q (.ref h₂.objs.size) H2.objs.size) s₃ := by
    rintro ⟨_, _, _, _, _⟩ rfl rfl rfl rfl
    refine compWalkR T W hP hw hx hkind (fresh _ (by rw [hC]; exact Nat.le_succ _)) (fresh _ (Nat.le_refl _)) hDC hDf hCf hst₁ hacc hns₁ (stays_trans hk₂ old) hsz fun h' tk m' ys hn hl hF hk => ?_
    exact hQ _ _ h' tk m' ys (fresh _ (by rw [hC]; exact Nat.le_succ _)) (fresh _ (Nat.le_refl _)) hDC hk hl hF hn
  exact compStartR (loop _ rfl rfl rfl rfl) (W.self 0 _ _ _ hst₁ (loop _ rfl rfl rfl rfl))
end
end Nt

set_option Elab.async false
set_option maxRecDepth 100000
open PySem PySem.W PyProof.Rows PySem.Calls
namespace Nt
set_option genInjectivity false
set_option genSizeOf false
set_option compiler.extract_closed false
noncomputable section

noncomputable def PV.rng? : (p : PV) → Option {i : Int × Int × Int // p = .rng i.1 i.2.1 i.2.2}
  | .rng a b c => some ⟨(a, b, c), rfl⟩
  | _ => Option.none
noncomputable def PV.sl? : (p : PV) → Option {i : List Str // p = .sl i}
  | .sl b => some ⟨b, rfl⟩
  | _ => Option.none
noncomputable def bytePV (u : UInt8) : PV := .int (u.toNat : Int)
noncomputable def signPV (c : Nat) : PV := .str ⟨#[c]⟩
noncomputable def rngL (a b c : Int) : List Int := (List.range (Builtin.Range.rangeSize a b c).toNat).map fun (i : Nat) => a + (i : Int) * c
/-- what a value walks through, and a stand-in of the kind -/
noncomputable def srcPV (p : PV) : Option ((List PV × PV) × Cond) :=
  alt (with_ p.bytes? fun b => some ((b.1.map bytePV, .int 0), none))
  (alt (with_ p.il? fun b => some ((b.1.map .int, .int 0), none))
  (alt (with_ p.str? fun b => some ((b.1.cps.toList.map signPV, .str Str.empty), none))
  (alt (with_ p.rl? fun b => some ((b.1.map .bytes, .bytes []), none))
    (with_ p.rng? fun b => some (((rngL b.1.1 b.1.2.1 b.1.2.2).map .int, .int 0), some (Builtin.Range.small b.1.1 b.1.2.1 b.1.2.2 = true))))))

theorem ints_at : ∀ {vs : List Value} {ns : List Int} {i : Nat} {v : Value}, IntsAre vs ns → vs.toArray[i]? = some v → ∃ q, (ns.map PV.int)[i]? = some q ∧ Rp q v := by
  intro vs ns i v h e
  rw [List.getElem?_toArray] at e
  induction h generalizing i with
  | nil => cases i <;> cases e
  | cons n t _ ih =>
    cases i with
    | zero => cases e; exact ⟨_, rfl, fun _ _ => ⟨t, rfl⟩⟩
    | succ j => exact ih e
theorem bytes_at {l : List (List UInt8)} : ∀ {vs : List Value} {i : Nat} {v : Value}, BytesAre vs l → vs[i]? = some v → ∃ b, l[i]? = some b ∧ Rp (.bytes b) v := by
  induction l with
  | nil => intro vs i v h e; cases (show vs = [] from h); cases i <;> cases e
  | cons b bs ih =>
    rintro vs i v ⟨t, r, rfl, h⟩ e
    cases i with
    | zero => cases e; exact ⟨b, rfl, fun _ _ => ⟨t, rfl⟩⟩
    | succ j => exact ih h e
theorem BytesAre.length : ∀ {l : List (List UInt8)} {vs : List Value}, BytesAre vs l → vs.length = l.length
  | [], _, rfl => rfl
  | _ :: _, _, ⟨_, _, rfl, h⟩ => congrArg (· + 1) h.length

section
variable {prog : Program} {w : World} {A : Around} {s : Shared} {H : List Addr}
theorem iter_list {l : Addr} {vs : List Value} {qs : List PV} (hh : A.handled = none) (hl : s.heap.IsList l vs.toArray) (hn : vs.length = qs.length) (hq : ∀ (i : Nat) (v : Value), vs.toArray[i]? = some v → ∃ q : PV, qs[i]? = some q ∧ Rp q v) :
    Iter prog w A (.ref l) s qs := fun Q E k => by
  have hlt : l < s.heap.objs.size := by obtain ⟨_, e, _⟩ := hl; exact Heap.lt_size e
  have W := Walks.list (prog := prog) (w := w) hh s.heap.objs.size l (Nat.ne_of_lt hlt) vs.toArray
  rw [show vs.toArray.size = qs.length from List.size_toArray.trans hn] at W
  refine wpAny_pyIter_list hl (k _ _ _ _ _ _ s.toks W hq ⟨⟨_, Heap.get?_push_size _ rfl, rfl, rfl⟩, hl.push _⟩ (fun b hb => ?_) (fun b hb => ?_) (stays_push _ _) (fun i h st => ?_) (fun b hb => ?_) rfl)
  · rw [Heap.size_push]
    rcases List.mem_cons.mp hb with rfl | hb
    · exact Nat.lt_succ_self _
    · rw [List.mem_singleton.mp hb]; exact Nat.lt_succ_of_lt hlt
  · rw [List.mem_singleton.mp hb]
    cases e : s.heap.get? s.heap.objs.size with
    | none => rfl
    | some o => exact absurd (Heap.lt_size e) (Nat.lt_irrefl _)
  · obtain ⟨⟨o1, e1, c1, d1⟩, ⟨o2, e2, _, n2, d2⟩⟩ := st
    refine ⟨⟨o1, _, e1, d1, by rw [c1]; decide⟩, fun b hb => ?_⟩
    rcases List.mem_cons.mp hb with rfl | hb
    · exact ⟨o1, e1, fun _ _ q => by rw [d1] at q; cases q⟩
    · rw [List.mem_singleton.mp hb]; exact ⟨o2, e2, fun _ _ q => by rw [d2] at q; cases q⟩
  · rcases List.mem_cons.mp hb with rfl | hb
    · exact .inl rfl
    · rw [List.mem_singleton.mp hb]; exact .inr ⟨rfl, _, hl⟩
theorem new_none (h : Heap) : h.get? h.objs.size = none := by
  cases e : h.get? h.objs.size with
  | none => rfl
  | some o => exact absurd (Heap.lt_size e) (Nat.lt_irrefl _)
theorem iter_ok {p : PV} {v : Value} (hh : A.handled = none) (hr : Rep H s.heap p v) : Ok (srcPV p) fun q => Iter prog w A v s q.1 := by
  refine .alt (.with_ fun b _ => .some fun _ => ?_) (.alt (.with_ fun b _ => .some fun _ => ?_) (.alt (.with_ fun b _ => .some fun _ => ?_) (.alt (.with_ fun b _ => .some fun _ => ?_) (.with_ fun b _ => .some fun hc => ?_))))
  · obtain ⟨t, rfl⟩ := hr.at b.2
    intro Q E k
    have W := KBw.walks (prog := prog) (w := w) hh s.heap.objs.size b.1.toArray t
    rw [show b.1.toArray.size = (b.1.map bytePV).length by simp] at W
    refine KBw.pyIter_bytes (k _ _ _ _ _ _ s.toks W (fun i v hv => ?_) ⟨_, Heap.get?_push_size _ rfl, rfl, rfl⟩ (fun b hb => ?_) (fun b hb => ?_) (stays_push _ _) (fun i h st => by obtain ⟨o1, e1, c1, d1⟩ := st; exact ⟨⟨o1, _, e1, d1, by rw [c1]; decide⟩, fun b hb => by rw [List.mem_singleton.mp hb]; exact ⟨o1, e1, fun _ _ q => by rw [d1] at q; cases q⟩⟩) (fun b hb => .inl (List.mem_singleton.mp hb)) rfl)
    · obtain ⟨c, u, e, rfl⟩ := hv
      rw [List.getElem?_toArray] at e
      exact ⟨bytePV c, by rw [List.getElem?_map, e]; rfl, fun _ _ => ⟨u, rfl⟩⟩
    · rw [List.mem_singleton.mp hb, Heap.size_push]; exact Nat.lt_succ_self _
    · rw [List.mem_singleton.mp hb]; exact new_none _
  · obtain ⟨a, vs, rfl, _, hl, hi⟩ := hr.at b.2
    exact iter_list hh hl (by rw [List.length_map]; exact hi.length) fun i v e => ints_at hi e
  · obtain ⟨t, rfl⟩ := hr.at b.2
    intro Q E k
    have key : ∀ (ty : String) (hty : Value.type ty ≠ .type "range") (o : Obj) (hW : Walks prog w A s.heap.objs.size [s.heap.objs.size] [s.heap.objs.size] b.1.cps.size (SignAt b.1) (fun i h => h.IsStrIter s.heap.objs.size ty b.1 t i)) (hst : (s.heap.push o).IsStrIter s.heap.objs.size ty b.1 t 0),
        Q (.ref s.heap.objs.size) { s with heap := s.heap.push o } := fun ty hty o hW hst => by
      refine k s.heap.objs.size [s.heap.objs.size] [s.heap.objs.size] _ _ _ s.toks (by simpa using hW) (fun i v hv => ?_) hst (fun b hb => ?_) (fun b hb => ?_) (stays_push _ _) (fun i h st => ?_) (fun b hb => .inl (List.mem_singleton.mp hb)) rfl
      · obtain ⟨c, u, e, rfl⟩ := hv
        rw [← Array.getElem?_toList] at e
        exact ⟨signPV c, by rw [List.getElem?_map, e]; rfl, fun _ _ => ⟨u, rfl⟩⟩
      · rw [List.mem_singleton.mp hb, Heap.size_push]; exact Nat.lt_succ_self _
      · rw [List.mem_singleton.mp hb]; exact new_none _
      · obtain ⟨o1, e1, c1, d1⟩ := st
        exact ⟨⟨o1, _, e1, d1, by rw [c1]; exact hty⟩, fun b hb => by rw [List.mem_singleton.mp hb]; exact ⟨o1, e1, fun _ _ q => by rw [d1] at q; cases q⟩⟩
    cases ha : b.1.cps.all (· < 128)
    · exact wpAny_pyIter_wide ha (key _ (by decide) _ (Walks.strWide hh _ b.1 t) ⟨_, Heap.get?_push_size _ rfl, rfl, rfl⟩)
    · exact wpAny_pyIter_ascii ha (key _ (by decide) _ (Walks.strAscii hh _ b.1 t) ⟨_, Heap.get?_push_size _ rfl, rfl, rfl⟩)
  · obtain ⟨a, vs, rfl, _, hl, hi⟩ := hr.at b.2
    refine iter_list hh hl (by rw [List.length_map]; exact hi.length) fun i v e => ?_
    rw [List.getElem?_toArray] at e
    obtain ⟨b', e', r⟩ := bytes_at hi e
    exact ⟨_, by rw [List.getElem?_map, e']; rfl, r⟩
  · obtain ⟨a, t, u, x, rfl, _, hg⟩ := hr.at b.2
    intro Q E k
    refine wpAny_pyIter_range hg hc (k s.heap.objs.size [s.heap.objs.size] [s.heap.objs.size] _ _ _ s.toks
      (Walks.bound (Walks.range hh s.heap.objs.size b.1.1 b.1.2.2 ((rngL b.1.1 b.1.2.1 b.1.2.2).map PV.int).length)) (fun i v hv => ?_) ?_ (fun b hb => ?_) (fun b hb => ?_) (stays_push _ _) (fun i h st => ?_) (fun b hb => .inl (List.mem_singleton.mp hb)) rfl)
    · obtain ⟨hi, u, rfl⟩ := hv
      rw [List.length_map] at hi
      unfold rngL at hi ⊢
      rw [List.length_map, List.length_range] at hi
      exact ⟨.int (b.1.1 + (i : Int) * b.1.2.2), by simp [hi], fun _ _ => ⟨u, rfl⟩⟩
    · have e : (((rngL b.1.1 b.1.2.1 b.1.2.2).map PV.int).length : Int) = Builtin.Range.rangeSize b.1.1 b.1.2.1 b.1.2.2 := by
        simp only [rngL, List.length_map, List.length_range]; exact (rangeSize_toNat _ _ _).symm
      show IsRangeIter _ _ _ _ _
      rw [e]
      simpa using Heap.get?_push_size _ rfl
    · rw [List.mem_singleton.mp hb, Heap.size_push]; exact Nat.lt_succ_self _
    · rw [List.mem_singleton.mp hb]; exact new_none _
    · exact ⟨⟨_, _, (show IsRangeIter _ _ _ _ _ from st), rfl, show Value.type "range_iterator" ≠ .type "range" by decide⟩, fun b hb => by rw [List.mem_singleton.mp hb]; exact ⟨_, (show IsRangeIter _ _ _ _ _ from st), fun _ _ q => by cases q⟩⟩
end
end
end Nt

set_option Elab.async false
set_option maxRecDepth 100000
open PySem PySem.W PyProof.Rows PySem.Calls
namespace Nt
set_option genInjectivity false
set_option genSizeOf false
set_option compiler.extract_closed false
noncomputable section

noncomputable def isSlice : Expr → Bool
  | .Slice .. => true
  | _ => false
theorem sub_plain {slice : Expr} {o i : Value} (h : isSlice slice = false) : subscripted slice false o i = operate [o, i] (getItem o i) := by
  cases slice with
  | Slice => cases h
  | _ => rfl
theorem BytesAre.append : ∀ {l k : List (List UInt8)} {vs ws : List Value}, BytesAre vs l → BytesAre ws k → BytesAre (vs ++ ws) (l ++ k)
  | [], _, _, _, rfl, h => h
  | _ :: _, _, _, _, ⟨t, r, rfl, h⟩, g => ⟨t, _, rfl, h.append g⟩
theorem BytesAre.drop : ∀ {l : List (List UInt8)} {vs : List Value} (n : Nat), BytesAre vs l → BytesAre (vs.drop n) (l.drop n)
  | _, _, 0, h => h
  | [], _, _ + 1, rfl => rfl
  | _ :: _, _, n + 1, ⟨_, _, rfl, h⟩ => h.drop n
theorem BytesAre.take : ∀ {l : List (List UInt8)} {vs : List Value} (n : Nat), BytesAre vs l → BytesAre (vs.take n) (l.take n)
  | _, _, 0, _ => rfl
  | [], _, _ + 1, rfl => rfl
  | _ :: _, _, n + 1, ⟨t, _, rfl, h⟩ => ⟨t, _, rfl, h.take n⟩
theorem cut_ints {vs : List Value} {ns : List Int} (h : IntsAre vs ns) (lo hi : Option Int) : IntsAre (cut vs lo hi) (cut ns lo hi) := by
  unfold cut; rw [h.length]; exact (h.drop _).take _
theorem cut_bytes {vs : List Value} {ns : List (List UInt8)} (h : BytesAre vs ns) (lo hi : Option Int) : BytesAre (cut vs lo hi) (cut ns lo hi) := by
  unfold cut; rw [h.length]; exact (h.drop _).take _
theorem cut_pick (vs : List Value) (lo hi : Option Int) : slicePick vs.toArray lo hi none = (cut vs lo hi).toArray := by rw [slicePick_plain]; simp [cut]

section
variable {prog : Program} {w : World} {A : Around} {E : Value → Shared → Prop} {s : Shared} {Q : Value → Shared → Prop} {value slice : Expr}
theorem addL {l b : Addr} {vs ws : List Value} (hl : s.heap.IsList l vs.toArray) (hb : s.heap.IsList b ws.toArray) (hsz : vs.length + ws.length ≤ sizeLine)
    (h : Q (.ref s.heap.objs.size) { s with heap := s.heap.push { cls := .type "list", data := .seq (vs ++ ws).toArray } }) : wpAny (model prog w) A (binaryOp .Add (.ref l) (.ref b)) Q E s := by
  obtain ⟨⟨cls, dd, data, sl⟩, ho, hc, n, hd⟩ := id hl
  obtain ⟨⟨cls2, dd2, data2, sl2⟩, ho2, hc2, n2, hd2⟩ := id hb
  simp only at hc hd hc2 hd2
  subst hc hd hc2 hd2
  refine concat_meets ⟨_, ho, rfl⟩ ⟨_, ho2, rfl⟩ noFill_list_add seq_list_add PySem.F.slot_list_add PySem.F.entry_list_add (PySem.F.args_list_add_2 _ _) (list_addW l b vs.toArray ws.toArray n n2 dd dd2 sl sl2 (by simpa using hsz)) ⟨ho, ho2, ?_⟩
  rw [List.append_toArray]
  exact h
theorem isList_new (h : Heap) (vs : List Value) : (h.push { cls := .type "list", data := .seq vs.toArray }).IsList h.objs.size vs.toArray := ⟨_, Heap.get?_push_size _ rfl, rfl, _, rfl⟩
theorem isTup_new (h : Heap) (vs : List Value) : IsTup (h.push { cls := .type "tuple", data := .seq vs.toArray }) h.objs.size vs.toArray := ⟨_, Heap.get?_push_size _ rfl, rfl, _, rfl⟩

theorem itemB {b : List UInt8} {i : Int} {t u : Tok} (hs : isSlice slice = false) (h0 : 0 ≤ i) (h1 : i < (b.length : Int)) (hz : b.length ≤ 1048576)
    (h : ∀ t' k, Q (.int ((b.getD i.toNat 0).toNat : Int) t') { s with toks := k }) : wpAny (model prog w) A (subscriptTail value slice (.bytes b.toArray t) (.int i u)) Q E s :=
  tail_any (typeIs_bytes _ _ _) FB.slot_bytes_getitem.lookup (getItem_bytes (by lia) h0 (by lia) (h _ _)) (sub_plain hs)
theorem itemL {l : Addr} {vs : List Value} {i : Int} {u : Tok} {x : Value} (hs : isSlice slice = false) (hl : s.heap.IsList l vs.toArray) (h0 : 0 ≤ i) (hx : vs[i.toNat]? = some x) (hf : i < 2 ^ 63) (h : Q x s) :
    wpAny (model prog w) A (subscriptTail value slice (.ref l) (.int i u)) Q E s :=
  tail_any hl.typeIs slot_list_getitem.lookup (wpAny_getItem_list hl h0 hf (by simpa using hx) h) (sub_plain hs)
theorem itemT {l : Addr} {vs : List Value} {i : Int} {u : Tok} {x : Value} (hs : isSlice slice = false) (hl : IsTup s.heap l vs.toArray) (h0 : 0 ≤ i) (hx : vs[i.toNat]? = some x) (hf : i < 2 ^ 63) (h : Q x s) :
    wpAny (model prog w) A (subscriptTail value slice (.ref l) (.int i u)) Q E s := by
  have hlt : i.toNat < vs.length := by
    by_cases q : i.toNat < vs.length
    · exact q
    · rw [List.getElem?_eq_none (Nat.le_of_not_lt q)] at hx; cases hx
  have e : seqIndex? i vs.length = some i.toNat := by
    have hn : ¬ i < 0 := by lia
    simp [seqIndex?, hn, h0]; lia
  exact item_tupleT hl (by lia) hf e hx h (sub_plain hs)

theorem cutB {b : List UInt8} {t : Tok} {l v : Value} {lo hi : Option Int} {lw up : Option Expr} {p : Pos} (hl : IsPart l lo) (hu : IsPart v hi) (hz : b.length ≤ 16777216)
    (h : ∀ t' k, Q (.bytes (cut b lo hi).toArray t') { s with heap := s.heap.push { cls := .type "slice", data := .fields #[l, v, .none] }, toks := k }) :
    wpAny (model prog w) A (subscriptTail value (.Slice lw up none p) (.bytes b.toArray t) (.ref s.heap.objs.size)) Q E { s with heap := s.heap.push { cls := .type "slice", data := .fields #[l, v, .none] } } := by
  refine tail_any (typeIs_bytes _ _ _) FB.slot_bytes_getitem.lookup (getItem_meets (typeIs_bytes _ _ _) (by decide) FB.slot_bytes_getitem FB.entry_bytes_getitem (FB.args_bytes_getitem_2 _ _) (KBc.meets_slice2 b.toArray t _ hl hu)
    ⟨Heap.IsSliceOf.new _ _ _ _, Nat.le_trans (KBc.size_picked_le b.toArray lo hi) (by rw [sizeLine_eq]; simpa using hz), fun t' k => ?_⟩) rfl
  have e : KBy.picked b.toArray lo hi = (cut b lo hi).toArray := by rw [KBc.picked_eq]; simp [cut]
  rw [e]
  exact h t' k
theorem cutL {a : Addr} {vs : List Value} {l v : Value} {lo hi : Option Int} {lw up : Option Expr} {p : Pos} (ha : s.heap.IsList a vs.toArray) (hl : IsPart l lo) (hu : IsPart v hi) (hz : vs.length ≤ 16777216)
    (h : ∀ h' D, s.heap.StaysIn h' → h'.IsList D (cut vs lo hi).toArray → Q (.ref D) { s with heap := h' }) :
    wpAny (model prog w) A (subscriptTail value (.Slice lw up none p) (.ref a) (.ref s.heap.objs.size)) Q E { s with heap := s.heap.push { cls := .type "slice", data := .fields #[l, v, .none] } } := by
  have ha' := Heap.IsList.push ha { cls := .type "slice", data := .fields #[l, v, .none] }
  refine tail_any (Heap.IsList.typeIs (s := { s with heap := s.heap.push { cls := .type "slice", data := .fields #[l, v, .none] } }) ha') list_getitem_lookup
    (wpAny_getItem_list_slice ha' (Heap.IsSliceOf.new ..) hl hu .none (by simp) ?_ (by rw [sizeLine_eq]; simpa using hz)) rfl
  rw [cut_pick]
  exact h _ _ (stays_trans (stays_push _ _) (stays_push _ _)) (isList_new _ _)
theorem revL {a : Addr} {vs : List Value} {st : Expr} {k : Value} {p : Pos} (ha : s.heap.IsList a vs.toArray) (hk : IsPart k (some (-1))) (hz : vs.length ≤ 16777216)
    (h : ∀ h' D, s.heap.StaysIn h' → h'.IsList D vs.reverse.toArray → Q (.ref D) { s with heap := h' }) :
    wpAny (model prog w) A (subscriptTail value (.Slice none none (some st) p) (.ref a) (.ref s.heap.objs.size)) Q E { s with heap := s.heap.push { cls := .type "slice", data := .fields #[.none, .none, k] } } := by
  have ha' := Heap.IsList.push ha { cls := .type "slice", data := .fields #[.none, .none, k] }
  refine tail_any (Heap.IsList.typeIs (s := { s with heap := s.heap.push { cls := .type "slice", data := .fields #[.none, .none, k] } }) ha') list_getitem_lookup
    (wpAny_getItem_list_slice ha' (Heap.IsSliceOf.new ..) .none .none hk (by decide) ?_ (by rw [sizeLine_eq]; simpa using hz)) rfl
  rw [krv_pick]
  exact h _ _ (stays_trans (stays_push _ _) (stays_push _ _)) (isList_new _ _)
end

theorem eqGives_bytes (x y : Array UInt8) (t u : Tok) : MeetsSeq.EqGives (.bytes x t) (.bytes y u) (x.toList == y.toList) := by
  intro prog w A E s Q h
  unfold eqBool
  refine wpAny_holding ?_
  refine wpAny_ite_split (fun hab => ?_) (fun hab => ?_)
  · have e : x = y := by have := eq_of_beq hab; injection this
    subst e
    exact wpAny_bind (wpAny_rule (wpAny_pure (by simpa using h)))
  · exact wpAny_bind (richCompare_gives (typeIs_bytes s x t) (typeIs_bytes s y u) FB.slot_bytes_eq FB.entry_bytes_eq (FB.args_bytes_eq_2 _ _) (gives_bytes_eq x y t u) (by simp [Made.takes]) (wpAny_truthy_bool h))
end
end Nt

set_option Elab.async false
set_option maxRecDepth 100000
set_option linter.all false
open PySem PySem.W PyProof.Rows PySem.Calls
namespace Nt
set_option genInjectivity false
set_option genSizeOf false
theorem int_no_bytes : typeLookup (.type "int") "__bytes__" = pure none := by rw [typeLookup_type, builtinLookup_eq_fast]; kernel_rfl
section
variable {prog : Program} {w : World} {A : Around} {E : Value → Shared → Prop} {s : Shared}
theorem int_special {n : Int} {t : Tok} {name : Str} {r : Option Value} (h : typeLookup (.type "int") name = pure r) : specialOf (.int n t) name = pure r := by
  unfold specialOf
  exact h
theorem newInt {n : Int} {u : Tok} {Q : Value → Shared → Prop} (h0 : 0 ≤ n) (h1 : n ≤ 1000000) (hQ : ∀ t k, Q (.bytes (Array.replicate n.toNat 0) t) { s with toks := k }) :
    codeAny (model prog w) A (.call (.builtin "bytes.__new__") ⟨[.type "bytes", .int n u], []⟩) (wants Q E) s := by
  refine codeAny_of_tree ?_
  show wpAny _ A.in1 (do checkBuiltinCall "bytes.__new__" ⟨[.type "bytes", .int n u], []⟩; again (.builtin "bytes.__new__" ⟨[.type "bytes", .int n u], []⟩)) _ _ s
  refine wpAny_bind (wpAny_of_eq (F.bm_newCall _) (wpAny_pure ⟨plainId_quiet F.bm_plain _, codeAny_builtin F.bm_entry ?_⟩))
  rw [Around.under_plainId F.bm_plain _]
  unfold Builtin.«bytes.__new__»
  refine wpAny_bind (wpAny_of_eq (a := true) rfl ?_)
  refine bm_if_false rfl ?_
  refine wpAny_bind (wpAny_of_eq F.bm_sub ?_)
  refine bm_if_false rfl ?_
  refine wpAny_bind (wpAny_of_eq (F.bm_bind _) ?_)
  refine wpAny_bind (wpAny_of_eq (a := ()) rfl ?_)
  refine wpAny_bind (wpAny_of_eq (a := ()) rfl ?_)
  refine bm_if_false rfl ?_
  refine wpAny_bind (wpAny_of_eq (int_special int_no_bytes) ?_)
  refine wpAny_bind (wpAny_of_eq (a := false) rfl ?_)
  refine bm_if_false rfl ?_
  refine wpAny_bind (wpAny_of_eq (int_special int_index) ?_)
  refine bm_if_false rfl ?_
  refine wpAny_bind (wpAny_attempt (wpAny_of_eq (rfl : asIndex (.int n u) = pure n) ?_))
  refine bm_if_false (by simp [Builtin.Bytes.fitsIndex]; lia) ?_
  rw [if_neg (by lia)]
  rw [if_neg (by lia)]
  refine bm_if_false (KBy.tooLong_not (by lia)) ?_
  refine wpAny_bind (wpAny_rule (wpAny_bind (wpAny_mkBytes ?_ (by simp [sizeLine_eq]; lia))))
  show wpAny _ _ (if (Value.type "bytes" == Value.type "bytes") = true then _ else _) _ _ _
  refine bm_if_true (by decide) ?_
  first
    | exact wpAny_pure (hQ _ _)
    | exact wpAny_bind (wpAny_pure (wpAny_pure (hQ _ _)))
theorem call_bytes_int {n : Int} {u : Tok} {Q : Value → Shared → Prop} (h0 : 0 ≤ n) (h1 : n ≤ 1000000) (hQ : ∀ t k, Q (.bytes (Array.replicate n.toNat 0) t) { s with toks := k }) :
    wpAny (model prog w) A (call (.type "bytes") [.int n u]) Q E s := by
  refine callType_codes (Q₁ := fun obj s₁ => s₁.TypeIs obj "bytes" ∧ Q obj s₁) F.bm_called (F.bm_typeCall _) F.entry_object_init
    (newInt h0 h1 fun t k => ⟨PySem.W.typeIs_bytes _ _ _, hQ t k⟩) fun obj s₁ h₁ => ?_
  exact ⟨h₁.1, F.args_object_init_2 obj _, object_init_meets F.bm_called.init.lookup F.bm_called.made (by decide) prog w A.in1 _ s₁ ⟨h₁.1, rfl, h₁.2⟩⟩
theorem ba_no_bytes : typeLookup (.type "bytearray") "__bytes__" = pure none := by rw [typeLookup_type, builtinLookup_eq_fast]; kernel_rfl
theorem ba_no_index : typeLookup (.type "bytearray") "__index__" = pure none := by rw [typeLookup_type, builtinLookup_eq_fast]; kernel_rfl
theorem ba_buffer : typeLookup (.type "bytearray") "__buffer__" = pure (some (.builtin "bytearray.__buffer__")) := by rw [typeLookup_type, builtinLookup_eq_fast]; kernel_rfl
theorem ba_release : typeLookup (.type "bytearray") "__release_buffer__" = pure (some (.builtin "bytearray.__release_buffer__")) := by rw [typeLookup_type, builtinLookup_eq_fast]; kernel_rfl
theorem ba_type {a : Addr} {b : List UInt8} (h : s.heap.get? a = some (baO b)) : s.TypeIs (.ref a) "bytearray" := ⟨_, h, rfl⟩
theorem slotOwn {v : Value} {T name : String} {M : Model} {Q : Bool → Shared → Prop} (hT : s.TypeIs v T) (hl : typeLookup (.type T) (Str.ofString name) = pure (some (.builtin (T ++ "." ++ name)))) (he : ((T ++ "." ++ name).endsWith ("." ++ name)) = true) (hd : (T ++ "." ++ name).dropRight (name.length + 1) = T) (hs : isSubtype (.type T) (.type T) = pure true) (h : Q true s) :
    wpAny M A (Builtin.Bytes.slotIsOwn v name) Q E s := by
  unfold Builtin.Bytes.slotIsOwn
  refine wpAny_bind (wpAny_specialOf hT hl ?_)
  dsimp only
  rw [he, hd]
  simp only [Bool.not_true, Bool.false_eq_true, if_false]
  exact wpAny_isInstance hT hs h
theorem ba_bufferAny {id : String} {full : Bool} {a : Addr} {b : List UInt8} {M : Model} {Q : Option (Array UInt8) → Shared → Prop} (ha : s.heap.get? a = some (baO b)) (h : Q (some b.toArray) s) : wpAny M A (Builtin.Bytes.buffer? id (.ref a) full) Q E s := by
  have hT := ba_type ha
  unfold Builtin.Bytes.buffer?
  refine wpAny_bind (wpAny_specialOf hT ba_buffer ?_)
  dsimp only
  refine wpAny_bind (slotOwn (T := "bytearray") (name := "__buffer__") hT ba_buffer (by decide +kernel) (by decide +kernel) F.sub_bytearray_bytearray ?_)
  refine bm_if_false rfl ?_
  refine wpAny_bind (wpAny_specialOf hT ba_buffer ?_)
  unfold Builtin.Bytes.ownRelease
  refine wpAny_bind (wpAny_bind (slotOwn (T := "bytearray") (name := "__release_buffer__") hT ba_release (by decide +kernel) (by decide +kernel) F.sub_bytearray_bytearray (wpAny_pure ?_)))
  refine bm_if_false rfl ?_
  unfold Builtin.Bytes.payload Builtin.Bytes.payload?
  refine wpAny_bind (wpAny_bind (wpAny_bind (wpAny_load ha ?_)))
  exact wpAny_pure (wpAny_pure (wpAny_pure h))
theorem newBa {a : Addr} {b : List UInt8} {Q : Value → Shared → Prop} (ha : s.heap.get? a = some (baO b)) (hz : b.length ≤ 16777216) (hQ : ∀ t k, Q (.bytes b.toArray t) { s with toks := k }) :
    codeAny (model prog w) A (.call (.builtin "bytes.__new__") ⟨[.type "bytes", .ref a], []⟩) (wants Q E) s := by
  have hT := ba_type ha
  refine codeAny_of_tree ?_
  show wpAny _ A.in1 (do checkBuiltinCall "bytes.__new__" ⟨[.type "bytes", .ref a], []⟩; again (.builtin "bytes.__new__" ⟨[.type "bytes", .ref a], []⟩)) _ _ s
  refine wpAny_bind (wpAny_of_eq (F.bm_newCall _) (wpAny_pure ⟨plainId_quiet F.bm_plain _, codeAny_builtin F.bm_entry ?_⟩))
  rw [Around.under_plainId F.bm_plain _]
  unfold Builtin.«bytes.__new__»
  refine wpAny_bind (wpAny_of_eq (a := true) rfl ?_)
  refine bm_if_false rfl ?_
  refine wpAny_bind (wpAny_of_eq F.bm_sub ?_)
  refine bm_if_false rfl ?_
  refine wpAny_bind (wpAny_of_eq (F.bm_bind _) ?_)
  refine wpAny_bind (wpAny_of_eq (a := ()) rfl ?_)
  refine wpAny_bind (wpAny_of_eq (a := ()) rfl ?_)
  refine bm_if_false rfl ?_
  refine wpAny_bind (wpAny_specialOf hT ba_no_bytes ?_)
  refine wpAny_bind (wpAny_bind ?_)
  show wpAny _ _ (load a >>= _) _ _ _
  refine wpAny_bind (wpAny_load ha ?_)
  refine wpAny_pure (wpAny_pure ?_)
  refine bm_if_false rfl ?_
  refine wpAny_bind (wpAny_specialOf hT ba_no_index ?_)
  refine bm_if_true rfl ?_
  first
    | show wpAny _ _ (Builtin.Bytes.buffer? "bytes.__new__" (.ref a) true >>= _) _ _ _
    | (refine wpAny_bind ?_; show wpAny _ _ (Builtin.Bytes.buffer? "bytes.__new__" (.ref a) true >>= _) _ _ _)
  refine wpAny_bind (ba_bufferAny ha ?_)
  refine wpAny_bind (wpAny_rule (wpAny_bind (wpAny_mkBytes ?_ (by simp [sizeLine_eq]; lia))))
  show wpAny _ _ (if (Value.type "bytes" == Value.type "bytes") = true then _ else _) _ _ _
  refine bm_if_true (by decide) ?_
  first
    | exact wpAny_pure (hQ _ _)
    | exact wpAny_bind (wpAny_pure (wpAny_pure (hQ _ _)))
theorem call_bytes_ba {a : Addr} {b : List UInt8} {Q : Value → Shared → Prop} (ha : s.heap.get? a = some (baO b)) (hz : b.length ≤ 16777216) (hQ : ∀ t k, Q (.bytes b.toArray t) { s with toks := k }) :
    wpAny (model prog w) A (call (.type "bytes") [.ref a]) Q E s := by
  refine callType_codes (Q₁ := fun obj s₁ => s₁.TypeIs obj "bytes" ∧ Q obj s₁) F.bm_called (F.bm_typeCall _) F.entry_object_init
    (newBa ha hz fun t k => ⟨PySem.W.typeIs_bytes _ _ _, hQ t k⟩) fun obj s₁ h₁ => ?_
  exact ⟨h₁.1, F.args_object_init_2 obj _, object_init_meets F.bm_called.init.lookup F.bm_called.made (by decide) prog w A.in1 _ s₁ ⟨h₁.1, rfl, h₁.2⟩⟩
end
end Nt

set_option Elab.async false
set_option maxRecDepth 100000
set_option linter.all false
open PySem PySem.W PyProof.Rows PySem.Calls
namespace Nt
set_option genInjectivity false
set_option genSizeOf false
section
variable {prog : Program} {w : World} {A : Around} {E : Value → Shared → Prop} {s : Shared}
theorem calm_builtin {id : String} {args : Args} (h1 : Builtin.Bytes.decodersThatHold.contains id = false) (h2 : id ≠ "bytearray.__contains__") (h3 : id ≠ "bytearray.__mod__") (h4 : id ≠ "bytearray.__rmod__") (h5 : id ≠ "_struct.pack_into.held") (h6 : id ≠ "bytearray.find.held") : Calm (.builtin id args) := by
  intro self p
  refine (Bool.or_false _).trans ?_
  delta Builtin.Bytes.exported.match_1 Builtin.Bytes.exported._sparseCasesOn_1
  dsimp only
  rw [dif_neg h2, dif_neg h3, dif_neg h4, dif_neg h5, dif_neg h6]
  rcases args with ⟨_ | ⟨v, r⟩, kw⟩
  · rfl
  · exact (congrArg (and (Builtin.Bytes.sameRef v self)) h1).trans (Bool.and_false _)
theorem callTypeR {T newId initId : String} {Bi : Builtin} {args : List Value} {Q Q₁ : Value → Shared → Prop} (ft : TypeCalled T newId initId)
    (hct : checkTypeCall T ⟨args, []⟩ = pure ()) (entryI : entryFor table initId = some Bi) (calm : ∀ as, Calm (.builtin initId as))
    (hnew : codeAny (model prog w) A.in1 (.call (.builtin newId) ⟨.type T :: args, []⟩) (wants Q₁ E) s)
    (hnext : ∀ obj s₁, Q₁ obj s₁ → s₁.TypeIs obj T ∧ argsOk initId ⟨obj :: args, []⟩ ∧
      wpR (model prog w) A.in1.in1 (Bi ⟨obj :: args, []⟩)
        (fun fin s' => match fin with | .done f => wants (fun r s₂ => r = .none ∧ Q obj s₂) E (.ok f) s' | .again c' => c'.quiet = true ∧ codeR (model prog w) A.in1 c' (wants (fun r s₂ => r = .none ∧ Q obj s₂) E) s')
        (fun e s' => wants (fun r s₂ => r = .none ∧ Q obj s₂) E (.error e) s') s₁) :
    wpR (model prog w) A (call (.type T) args) Q E s := by
  obtain ⟨c, tl, hmro⟩ := ft.mro
  have hmade := ft.made
  have hsub := ft.sub
  refine wpR_call (codeR_of_tree (fun _ _ => rfl) ?_)
  show wpR _ _ (callAny (.type T) _) _ _ _
  refine wpR_pure ⟨Code.quiet_builtin _ (by decide +kernel), codeR_builtin (calm_builtin (by decide +kernel) (by decide) (by decide) (by decide) (by decide) (by decide)) F.entry_type_call ?_⟩
  rw [Around.under_plain (weight_type_call_type T args []) rfl]
  have h1 := ft.notType
  have h2 := ft.canCreate
  unfold Builtin.«type.__call__»
  dsimp only
  refine wpR_if_false h1 ?_
  refine wpR_if_false h2 ?_
  refine wpR_bindEq hct ?_
  refine wpR_bindEq hmro ?_
  refine wpR_if_false rfl ?_
  refine wpR_bindEq hmade ?_
  refine wpR_bindEq rfl ?_
  refine wpR_bindA (wpAny_holding (wpAny_call (codeAny_mono hnew fun r s₁ hr => ?_)))
  cases r with
  | error e => exact hr
  | ok fl =>
    cases fl with
    | ret obj =>
      obtain ⟨hT, hok, hsi⟩ := hnext _ _ hr
      refine wpR_bindA (wpAny_isInstance hT hsub ?_)
      refine wpR_if_false rfl ?_
      refine wpR_bind (wpR_holding ?_)
      unfold callSpecial?
      refine wpR_bindA (wpAny_specialOf hT ft.init.lookup ?_)
      dsimp only
      refine wpR_holding (wpR_bindEq (ft.init.bind obj) ?_)
      refine wpR_bind (wpR_call ?_)
      have hck : ∀ Q, Q () s₁ → wpAny (model prog w) A.in1.in1 (checkBuiltinCall initId ⟨obj :: args, []⟩) Q (fun e s' => E e s') s₁ := fun Q hQ => ft.init.check _ _ _ _ _ _ _ _ hT hok hQ
      refine codeR_mono (codeR_call_builtin (R := wants (fun r s₂ => r = .none ∧ Q obj s₂) E) (calm _) ft.init.plain entryI (hck _ hsi)) fun r₂ s₂ hr₂ => ?_
      cases r₂ with
      | error e => exact hr₂
      | ok fl₂ =>
        cases fl₂ with
        | ret r =>
          obtain ⟨rfl, hq⟩ := hr₂
          exact wpR_pure (wpR_pure hq)
        | _ => exact hr₂.elim
    | _ => exact hr.elim
end
theorem mro_ba : mroOf (.type "bytearray") = pure [.type "bytearray", .type "object"] := by rw [mroOf_type]; kernel_rfl
theorem lookup_ba_new : typeLookup (.type "bytearray") "__new__" = pure (some (.builtin "bytearray.__new__")) := by rw [typeLookup_type, builtinLookup_eq_fast]; kernel_rfl
theorem slot_ba_init : Slot "bytearray" "__init__" "bytearray.__init__" :=
  .of (owner := "bytearray") (n := "__init__") (by rw [typeLookup_type, builtinLookup_eq_fast]; kernel_rfl) (by decide +kernel) (by decide +kernel) (by decide +kernel)
    (by first | exact .inl (by decide +kernel) | exact .inr (by decide +kernel)) (by rw [isSubtype_type]; kernel_rfl)
theorem called_ba : TypeCalled "bytearray" "bytearray.__new__" "bytearray.__init__" :=
  ⟨by decide +kernel, by decide +kernel, ⟨_, _, mro_ba⟩, madeBy_type mro_ba lookup_ba_new (by decide +kernel), by decide +kernel, by rw [isSubtype_type]; kernel_rfl, slot_ba_init⟩
theorem entry_ba_new : entryFor table "bytearray.__new__" = some Builtin.«list.__new__» := entryFor_alias (id' := "list.__new__") (by rw [fastTable_eq_tree]; kernel_rfl) (by first | rfl | decide +kernel) (by decide +kernel) (by rw [fastTable_eq_tree]; kernel_rfl)
theorem entry_ba_init : entryFor table "bytearray.__init__" = some Builtin.«bytearray.__init__» := entryFor_of_tree (by kernel_rfl)
theorem plain_ba_new : plainId "bytearray.__new__" = true := by decide +kernel
theorem calm_ba_init (as : Args) : Calm (.builtin "bytearray.__init__" as) := calm_builtin (by decide +kernel) (by decide) (by decide) (by decide) (by decide) (by decide)
set_option maxRecDepth 1000000 in
set_option maxHeartbeats 4000000 in
theorem owner_ba_new : ("bytearray.__new__".splitOn ".__new__").headD "" = "bytearray" := by simp +decide [String.splitOn, String.splitOnAux]
section
variable {prog : Program} {w : World} {A : Around} {E : Value → Shared → Prop} {s : Shared}
theorem code_ba_new {as : List Value} {Q₁ : Value → Shared → Prop} (hn : checkBuiltinCall "bytearray.__new__" ⟨.type "bytearray" :: as, []⟩ = pure ())
    (h : Q₁ (.ref s.heap.objs.size) { s with heap := s.heap.push { cls := .type "bytearray", data := .bytearray #[] } }) :
    codeAny (model prog w) A (.call (.builtin "bytearray.__new__") ⟨.type "bytearray" :: as, []⟩) (wants Q₁ E) s := by
  refine codeAny_of_tree ?_
  show wpAny _ A.in1 (do checkBuiltinCall "bytearray.__new__" ⟨.type "bytearray" :: as, []⟩; again (.builtin "bytearray.__new__" ⟨.type "bytearray" :: as, []⟩)) _ _ s
  refine wpAny_bind (wpAny_of_eq hn (wpAny_pure ⟨plainId_quiet plain_ba_new _, codeAny_builtin_stack entry_ba_new rfl fun p st => ?_⟩))
  rw [Around.under_plainId plain_ba_new _]
  have hsub := F.sub_bytearray_bytearray
  have hown := owner_ba_new
  obtain ⟨hp, g, d, tk, os⟩ := s
  simp only [hown]
  wp_walk
  exact h
end
end Nt

set_option Elab.async false
set_option maxRecDepth 100000
set_option linter.all false
open PySem PySem.W PyProof.Rows PySem.Calls
namespace Nt
set_option genInjectivity false
set_option genSizeOf false
theorem ba_bind0 : Builtin.Bytes.bindOptional "bytearray.__init__" "bytearray" ["source", "encoding", "errors"] [] [] = pure [none, none, none] := by kernel_rfl
theorem ba_bind1 (v : Value) : Builtin.Bytes.bindOptional "bytearray.__init__" "bytearray" ["source", "encoding", "errors"] [v] [] = pure [some v, none, none] := by kernel_rfl
section
variable {prog : Program} {w : World} {A : Around} {E : Value → Shared → Prop} {s : Shared} {M : Model}
theorem ba_own {a : Addr} {b : List UInt8} {Q : Bool → Shared → Prop} (ha : s.heap.get? a = some (baO b)) (h : Q false s) : wpAny M A (Builtin.Bytes.ownRelease (.ref a)) Q E s := by
  unfold Builtin.Bytes.ownRelease
  exact wpAny_bind (slotOwn (T := "bytearray") (name := "__release_buffer__") (ba_type ha) ba_release (by decide +kernel) (by decide +kernel) F.sub_bytearray_bytearray (wpAny_pure h))
theorem ba_exports {a : Addr} {b : List UInt8} {Q : Nat → Shared → Prop} (ha : s.heap.get? a = some (baO b)) (h : Q 0 s) : wpAny M A (Builtin.Bytes.exportsOf (.ref a)) Q E s := by
  unfold Builtin.Bytes.exportsOf
  refine wpAny_bind (wpAny_load ha ?_)
  exact wpAny_pure h
theorem ba_free {a : Addr} {b : List UInt8} {Q : Bool → Shared → Prop} (ha : s.heap.get? a = some (baO b)) (h : Q false s) : wpR M A (Builtin.Bytes.exported (.ref a) <||> (do return (← Builtin.Bytes.exportsOf (.ref a)) > 0)) Q E s := by
  refine wpR_bind (wpR_exported ?_)
  show wpR M A (do let n ← Builtin.Bytes.exportsOf (.ref a); pure (decide (n > 0))) Q E s
  exact wpR_bindA (ba_exports ha (wpR_pure h))
theorem ba_write {a : Addr} {b : List UInt8} {f : Array UInt8 → Array UInt8} {Q : Unit → Shared → Prop} (ha : s.heap.get? a = some (baO b)) (hz : (f b.toArray).size ≤ 16777216)
    (h : ∀ h', (∀ c o, c ≠ a → s.heap.get? c = some o → h'.get? c = some o) → h'.get? a = some (baO (f b.toArray).toList) → Q () { s with heap := h' }) : wpAny M A (Builtin.Bytes.write (.ref a) f) Q E s := by
  show wpAny M A (updateBytearray a f) Q E s
  unfold updateBytearray
  refine wpAny_bind (wpAny_load ha ?_)
  show wpAny _ _ (update a (Obj.mapBytearray f) >>= fun _ => lookBehind a) _ _ _
  refine wpAny_bind (wpAny_update ha ?_)
  have e : (s.heap.update a (Obj.mapBytearray f)).get? a = some (baO (f b.toArray).toList) := by
    rw [Heap.get?_update_self (Obj.mapBytearray f) ha rfl]
    rfl
  refine wpAny_lookBehind e ?_ (h _ (fun c o n q => (Heap.get?_update_other _ _ (Ne.symm n)).trans q) e)
  show (if ((f b.toArray).toList.toArray).size > sizeLine then some "bytearray:memory" else none) = none
  rw [if_neg]
  rw [sizeLine_eq]
  simpa using hz
theorem init0 {a : Addr} {Q : Fin → Shared → Prop} (ha : s.heap.get? a = some (baO []))
    (h : ∀ h', (∀ c o, c ≠ a → s.heap.get? c = some o → h'.get? c = some o) → h'.get? a = some (baO []) → Q (.done (.ret .none)) { s with heap := h' }) : wpR (model prog w) A (Builtin.«bytearray.__init__» ⟨[.ref a], []⟩) Q E s := by
  unfold Builtin.«bytearray.__init__»
  refine wpR_bindA (ba_own ha ?_)
  refine wpR_if_false rfl ?_
  refine wpR_bindEq ba_bind0 ?_
  refine wpR_bindEq (a := ()) rfl ?_
  refine wpR_bindEq (a := ()) rfl ?_
  refine wpR_bind (ba_free ha ?_)
  refine wpR_if_false rfl ?_
  refine wpR_bindA (ba_write ha (by simp) fun h' k e => ?_)
  refine wpR_bindEq (a := ()) rfl ?_
  exact wpR_pure (h h' k e)
theorem call_ba0 {Q : Value → Shared → Prop} (h : ∀ h', s.heap.StaysIn h' → h'.get? s.heap.objs.size = some (baO []) → Q (.ref s.heap.objs.size) { s with heap := h' }) : wpR (model prog w) A (call (.type "bytearray") []) Q E s := by
  refine callTypeR (Q₁ := fun obj s₁ => obj = .ref s.heap.objs.size ∧ s₁ = { s with heap := s.heap.push { cls := .type "bytearray", data := .bytearray #[] } }) called_ba (by kernel_rfl) entry_ba_init calm_ba_init (code_ba_new (by kernel_rfl) ⟨rfl, rfl⟩) ?_
  rintro obj s₁ ⟨rfl, rfl⟩
  have ha : (s.heap.push { cls := .type "bytearray", data := .bytearray #[] }).get? s.heap.objs.size = some (baO []) := Heap.get?_push_size _ rfl
  refine ⟨⟨_, ha, rfl⟩, by unfold argsOk; kernel_rfl, init0 ha fun h' k e => ⟨rfl, h h' (fun b o q => k b o (Nat.ne_of_lt (Heap.lt_size q)) (Heap.get?_push_of_some _ q)) e⟩⟩
end
end Nt

set_option Elab.async false
set_option maxRecDepth 100000
set_option linter.all false
open PySem PySem.W PyProof.Rows PySem.Calls
namespace Nt
set_option genInjectivity false
set_option genSizeOf false
theorem look_ba_iadd : typeLookup (.type "bytearray") (dunderI "add") = pure (some (.builtin "bytearray.__iadd__")) := by rw [typeLookup_type, builtinLookup_eq_fast]; kernel_rfl
theorem look_ba_add : typeLookup (.type "bytearray") (dunder "add") = pure (some (.builtin "bytearray.__add__")) := by rw [typeLookup_type, builtinLookup_eq_fast]; kernel_rfl
theorem look_ba_radd : typeLookup (.type "bytearray") (dunderR "add") = pure none := by rw [typeLookup_type, builtinLookup_eq_fast]; kernel_rfl
theorem slot_ba_iadd : Slot "bytearray" "__iadd__" "bytearray.__iadd__" :=
  .of (owner := "bytearray") (n := "__iadd__") (by rw [typeLookup_type, builtinLookup_eq_fast]; kernel_rfl) (by decide +kernel) (by decide +kernel) (by decide +kernel)
    (by first | exact .inl (by decide +kernel) | exact .inr (by decide +kernel)) (by rw [isSubtype_type]; kernel_rfl)
theorem entry_ba_iadd : entryFor table "bytearray.__iadd__" = some Builtin.«bytearray.__iadd__» := entryFor_of_tree (by kernel_rfl)
theorem calm_ba_iadd (as : Args) : Calm (.builtin "bytearray.__iadd__" as) := calm_builtin (by decide +kernel) (by decide) (by decide) (by decide) (by decide) (by decide)
section
variable {prog : Program} {w : World} {A : Around} {E : Value → Shared → Prop} {s : Shared} {M : Model}
theorem b_take {id : String} {x : List UInt8} {t : Tok} : Builtin.Bytes.takeBufferQuiet? id (.bytes x.toArray t) 0 = pure (some (x.toArray, none)) := by
  delta Builtin.Bytes.takeBufferQuiet? Builtin.Bytes.takeBuffer?
  have e : Builtin.Bytes.buffer? id (.bytes x.toArray t) (0 == Builtin.Bytes.fullReadOnly) = pure (some x.toArray) := by
    rw [show ((0 : Int) == Builtin.Bytes.fullReadOnly) = false by decide]
    exact KBy.buffer_eq
  rw [KBy.special_eq KBy.look_buffer, KBy.own_buffer, e]
  rfl
theorem ba_check {a : Addr} {b : List UInt8} {Q : Unit → Shared → Prop} (ha : s.heap.get? a = some (baO b)) (h : Q () s) : wpR M A (Builtin.Bytes.checkResize (.ref a)) Q E s := by
  unfold Builtin.Bytes.checkResize
  exact wpR_bind (ba_free ha (wpR_if_false rfl (wpR_pure h)))
theorem iadd_ba {a : Addr} {b x : List UInt8} {t : Tok} {Q : Fin → Shared → Prop} (ha : s.heap.get? a = some (baO b)) (hz : b.length + x.length ≤ 16777216)
    (h : ∀ h', (∀ c o, c ≠ a → s.heap.get? c = some o → h'.get? c = some o) → h'.get? a = some (baO (b ++ x)) → Q (.done (.ret (.ref a))) { s with heap := h' }) : wpR (model prog w) A (Builtin.«bytearray.__iadd__» ⟨[.ref a, .bytes x.toArray t], []⟩) Q E s := by
  unfold Builtin.«bytearray.__iadd__»
  refine wpR_bindEq (a := (.ref a, [.bytes x.toArray t])) rfl ?_
  refine wpR_bindEq b_take ?_
  unfold Builtin.Bytes.thenGiveBack
  dsimp only
  have rest : wpR (model prog w) A (do
      if Builtin.Bytes.tooLong ((← Builtin.Bytes.payload (.ref a)).size + x.toArray.size) = true then unsupported "bytearray.__iadd__:memory"
      Builtin.Bytes.write (.ref a) (· ++ x.toArray)
      ret (.ref a)) Q E s := by
    refine wpR_bindA ?_
    unfold Builtin.Bytes.payload Builtin.Bytes.payload?
    refine wpAny_bind (wpAny_bind (wpAny_load ha ?_))
    refine wpAny_pure (wpAny_pure ?_)
    refine wpR_if_false (KBy.tooLong_not (by simpa using hz)) ?_
    refine wpR_bindA (ba_write ha (by simpa using hz) fun h' k e => ?_)
    refine wpR_pure (h h' k ?_)
    rw [e]
    simp
  cases hx : x.toArray.isEmpty with
  | true => exact rest
  | false =>
    refine wpR_if_true rfl ?_
    refine wpR_if_false rfl ?_
    refine wpR_bind (ba_check ha ?_)
    exact rest
theorem inplace_ba {a : Addr} {b x : List UInt8} {t : Tok} {Q : Value → Shared → Prop} (ha : s.heap.get? a = some (baO b)) (hz : b.length + x.length ≤ 16777216)
    (h : ∀ h', (∀ c o, c ≠ a → s.heap.get? c = some o → h'.get? c = some o) → h'.get? a = some (baO (b ++ x)) → Q (.ref a) { s with heap := h' }) : wpR (model prog w) A (inplaceOp .Add (.ref a) (.bytes x.toArray t)) Q E s := by
  have hT := ba_type ha
  unfold inplaceOp
  refine wpR_holding ?_
  have hfi : fillsInplaceSlot (.type "bytearray") "add" (Operator.Add == .Add) = pure false := by
    unfold fillsInplaceSlot
    show (typeLookup (.type "bytearray") (dunderI "add") >>= fun fi => pure (fi.isSome && !isSeqSlot fi)) = pure false
    rw [look_ba_iadd]
    exact congrArg (fun b : Bool => (pure (true && !b) : Sem Bool)) (show isSeqSlot (some (.builtin "bytearray.__iadd__")) = true by decide +kernel)
  have hnb : fillsNumberSlot (.type "bytearray") "add" = pure false := PySem.fillsNumberSlot_seq (id := "bytearray.__add__") (r := none) look_ba_add (by decide +kernel) look_ba_radd rfl
  refine wpR_bindA (wpAny_typeOf hT ?_)
  refine wpR_bindEq hfi ?_
  refine wpR_if_false rfl ?_
  refine wpR_bindA ?_
  have hb1 : ∀ Q', Q' none s → wpAny (model prog w) A (binaryOp1 "add" (.ref a) (.bytes x.toArray t)) Q' E s := fun Q' hQ => by
    refine wpAny_bind (wpAny_typeOf hT (wpAny_bind (wpAny_typeOf (typeIs_bytes _ _ _) (wpAny_bind (wpAny_of_eq hnb ?_)))))
    refine wpAny_bind (PySem.bm_if_false (c := Value.type "bytearray" == Value.type "bytes") (a := pure false) (by decide) (wpAny_of_eq KBy.noFill_bytes_add ?_))
    exact wpAny_pure hQ
  refine hb1 _ ?_
  refine wpR_bindEq (PySem.seqSlot_of look_ba_iadd (by decide +kernel)) ?_
  refine wpR_bindA (wpAny_rule ?_)
  have tail : ∀ {t : Sem Value}, wpR (model prog w) A t Q E s → wpR (model prog w) A (t >>= fun r => pure r) Q E s := fun ht => wpR_bind (wpR_mono ht (fun _ _ x => wpR_pure x) fun _ _ x => x)
  refine (show wpR (model prog w) A (call (.builtin "bytearray.__iadd__") [.ref a, .bytes x.toArray t]) Q E s → wpR (model prog w) A _ Q E s from fun h => by first | exact tail h | exact h) (wpR_call ?_)
  refine codeR_call_builtin (calm_ba_iadd _) slot_ba_iadd.plain entry_ba_iadd (slot_ba_iadd.check _ _ _ _ _ _ _ _ hT (by unfold argsOk; kernel_rfl) ?_)
  exact iadd_ba ha hz fun h' k e => h h' k e
end
end Nt

set_option Elab.async false
set_option maxRecDepth 100000
set_option linter.all false
open PySem PySem.W PyProof.Rows PySem.Calls
namespace Nt
set_option genInjectivity false
set_option genSizeOf false
theorem slot_ba_len : Slot "bytearray" "__len__" "bytearray.__len__" :=
  .of (owner := "bytearray") (n := "__len__") (by rw [typeLookup_type, builtinLookup_eq_fast]; kernel_rfl) (by decide +kernel) (by decide +kernel) (by decide +kernel)
    (by first | exact .inl (by decide +kernel) | exact .inr (by decide +kernel)) (by rw [isSubtype_type]; kernel_rfl)
theorem slot_ba_getitem : Slot "bytearray" "__getitem__" "bytearray.__getitem__" :=
  .of (owner := "bytearray") (n := "__getitem__") (by rw [typeLookup_type, builtinLookup_eq_fast]; kernel_rfl) (by decide +kernel) (by decide +kernel) (by decide +kernel)
    (by first | exact .inl (by decide +kernel) | exact .inr (by decide +kernel)) (by rw [isSubtype_type]; kernel_rfl)
theorem entry_ba_len : entryFor table "bytearray.__len__" = some Builtin.«bytearray.__len__» := entryFor_of_tree (by kernel_rfl)
theorem entry_ba_getitem : entryFor table "bytearray.__getitem__" = some Builtin.«bytearray.__getitem__» := entryFor_of_tree (by kernel_rfl)
section
variable {prog : Program} {w : World} {A : Around} {E : Value → Shared → Prop} {s : Shared} {M : Model} {value slice : Expr}
theorem meets_ba_len (a : Addr) (b : List UInt8) : Meets (Builtin.«bytearray.__len__» ⟨[.ref a], []⟩) (fun _ R s => s.heap.get? a = some (baO b) ∧ R (.ok (.ret (.int b.length s.toks))) { s with toks := s.toks + 1 }) := by
  refine .of_wp fun prog w A R s hS => ?_
  obtain ⟨ha, h⟩ := hS
  unfold Builtin.«bytearray.__len__»
  refine wpAny_bind (wpAny_of_eq (a := (.ref a, [])) rfl ?_)
  unfold Builtin.Bytes.payload Builtin.Bytes.payload?
  refine wpAny_bind (wpAny_bind (wpAny_bind (wpAny_load ha ?_)))
  refine wpAny_pure (wpAny_pure ?_)
  refine fun _ _ _ => ?_
  refine ⟨_, rfl, ?_⟩
  have e : ((b.toArray.size : Nat) : Int) = (b.length : Int) := by simp
  rw [← e] at h
  exact h
theorem call_len_ba {a : Addr} {b : List UInt8} {Q : Value → Shared → Prop} (ha : s.heap.get? a = some (baO b)) (hz : b.length ≤ 16777216) (h : ∀ t k, Q (.int b.length t) { s with toks := k }) : wpAny (model prog w) A (call (.builtin "len") [.ref a]) Q E s :=
  call_len_meets (n := b.length) (ba_type ha) slot_ba_len entry_ba_len (by unfold argsOk; kernel_rfl) (meets_ba_len a b) (by lia) (by lia) (fun Q' hq => ⟨ha, hq⟩) (h _ _)
theorem meets_ba_slice (x : Addr) (b : List UInt8) (a : Addr) (n : Int) (u : Tok) :
    Meets (Builtin.«bytearray.__getitem__» ⟨[.ref x, .ref a], []⟩) (fun _ R s => s.heap.get? x = some (baO b) ∧ s.heap.IsSliceOf a .none (.int n u) .none ∧ b.length ≤ 16777216 ∧ R (.ok (.ret (.ref s.heap.objs.size))) { s with heap := s.heap.push (baO (cut b none (some n))) }) := by
  refine .of_wp fun prog w A R s hS => ?_
  obtain ⟨hx, ⟨o, ho, hc, hd⟩, hsz, h⟩ := hS
  have hT : s.TypeIs (.ref a) "slice" := ⟨o, ho, hc⟩
  unfold Builtin.«bytearray.__getitem__»
  refine wpAny_bind (wpAny_of_eq (a := (.ref x, [.ref a])) rfl ?_)
  refine wpAny_bind ?_
  unfold Builtin.Bytes.subscript?
  refine wpAny_bind (wpAny_specialOf hT slice_no_index (wpAny_pure ?_))
  refine wpAny_bind (wpAny_typeOf hT ?_)
  refine wpAny_bind ?_
  unfold Builtin.Bytes.sliceParts
  refine wpAny_bind (wpAny_field (x := .none) ho hd rfl ?_)
  kby_none
  refine wpAny_ite (KBy.ite_no (show ¬ ((Value.none == rawInt 0) = true) from Bool.false_ne_true) ?_)
  refine wpAny_bind (wpAny_field (x := .none) ho hd rfl ?_)
  kby_none
  refine wpAny_bind (wpAny_field (x := .int _ _) ho hd rfl ?_)
  kby_int
  refine wpAny_pure ?_
  unfold Builtin.Bytes.payload Builtin.Bytes.payload?
  refine wpAny_bind (wpAny_bind (wpAny_bind (wpAny_load hx ?_)))
  refine wpAny_pure (wpAny_pure ?_)
  have go : wpAny (model prog w) A.in1 (sliceIndices (rawPart none) (rawPart (some n)) (rawPart none) b.toArray.size) (fun r s' => r = sliceBounds none (some n) none b.toArray.size ∧ s' = s) (fun _ _ => False) s :=
    wpAny_of_eq (sliceIndices_raw none (some n) none b.toArray.size (fun e => nomatch e)) ⟨rfl, rfl⟩
  refine wpAny_bind (wpAny_mono go (fun r s' hr => ?_) fun _ _ e => e.elim)
  obtain ⟨rfl, rfl⟩ := hr
  refine wpAny_bind ?_
  unfold Builtin.Bytes.newBytearray
  have e : KBy.picked b.toArray none (some n) = (cut b none (some n)).toArray := by rw [KBc.picked_eq]; simp [cut]
  have e2 : Builtin.Bytes.sliced b.toArray (sliceBounds none (some n) none b.toArray.size).1 (sliceBounds none (some n) none b.toArray.size).2.1 (sliceBounds none (some n) none b.toArray.size).2.2 = (cut b none (some n)).toArray := e
  show wpAny _ _ (newObj (.type "bytearray") (.bytearray (Builtin.Bytes.sliced b.toArray (sliceBounds none (some n) none b.toArray.size).1 (sliceBounds none (some n) none b.toArray.size).2.1 (sliceBounds none (some n) none b.toArray.size).2.2))) _ _ _
  rw [e2]
  refine wpAny_newObj_type (wpAny_pure ⟨_, rfl, h⟩) ?_
  show (cut b none (some n)).toArray.size ≤ sizeLine
  rw [List.size_toArray, sizeLine_eq]
  exact Nat.le_trans (cut_le _ _ _) hsz
theorem cutBa {a : Addr} {b : List UInt8} {n : Int} {u : Tok} {lw up : Option Expr} {p : Pos} {Q : Value → Shared → Prop} (ha : s.heap.get? a = some (baO b)) (hz : b.length ≤ 16777216)
    (h : ∀ h', s.heap.StaysIn h' → ∀ D, h'.get? D = some (baO (cut b none (some n))) → Q (.ref D) { s with heap := h' }) :
    wpAny (model prog w) A (subscriptTail value (.Slice lw up none p) (.ref a) (.ref s.heap.objs.size)) Q E { s with heap := s.heap.push { cls := .type "slice", data := .fields #[.none, .int n u, .none] } } := by
  have ha' : (s.heap.push { cls := .type "slice", data := .fields #[.none, .int n u, .none] }).get? a = some (baO b) := Heap.get?_push_of_some _ ha
  have hT : Shared.TypeIs { s with heap := s.heap.push { cls := .type "slice", data := .fields #[.none, .int n u, .none] } } (.ref a) "bytearray" := ⟨_, ha', rfl⟩
  refine tail_any hT slot_ba_getitem.lookup (getItem_meets hT (by decide) slot_ba_getitem entry_ba_getitem (by unfold argsOk; kernel_rfl) (meets_ba_slice a b _ n u) ⟨ha', Heap.IsSliceOf.new _ _ _ _, hz, ?_⟩) rfl
  exact h _ (stays_trans (stays_push _ _) (stays_push _ _)) _ (Heap.get?_push_size _ rfl)
end
end Nt

set_option Elab.async false
set_option maxRecDepth 100000
set_option linter.all false
open PySem PySem.W PyProof.Rows PySem.Calls
namespace Nt
set_option genInjectivity false
set_option genSizeOf false
section
variable {prog : Program} {w : World} {A : Around} {E : Value → Shared → Prop} {s : Shared} {M : Model}
theorem init1 {a l : Addr} {n : Int} {t : Tok} {Q : Fin → Shared → Prop} (ha : s.heap.get? a = some (baO [])) (hne : l ≠ a) (hl : s.heap.IsList l #[.int n t]) (h0 : 0 ≤ n) (h1 : n < 256)
    (h : ∀ h', (∀ c o, c ≠ a → s.heap.get? c = some o → h'.get? c = some o) → h'.get? a = some (baO [n.toNat.toUInt8]) → Q (.done (.ret .none)) { s with heap := h' }) : wpR (model prog w) A (Builtin.«bytearray.__init__» ⟨[.ref a, .ref l], []⟩) Q E s := by
  unfold Builtin.«bytearray.__init__»
  refine wpR_bindA (ba_own ha ?_)
  refine wpR_if_false rfl ?_
  refine wpR_bindEq (ba_bind1 _) ?_
  refine wpR_bindEq (a := ()) rfl ?_
  refine wpR_bindEq (a := ()) rfl ?_
  refine wpR_bind (ba_free ha ?_)
  refine wpR_if_false rfl ?_
  refine wpR_bindA (ba_write ha (by simp) fun h1' k1 e1 => ?_)
  obtain ⟨ol, hol, hoc, nl, hod⟩ := hl
  have hol1 := k1 _ _ hne hol
  have hT : Shared.TypeIs { s with heap := h1' } (.ref l) "list" := ⟨_, hol1, hoc⟩
  refine wpR_bindA (wpAny_bind ?_)
  show wpAny _ _ (load l >>= _) _ _ _
  refine wpAny_bind (wpAny_load hol1 ?_)
  refine wpAny_pure ?_
  rw [hod]
  refine wpAny_pure ?_
  refine wpR_if_false rfl ?_
  refine wpR_bindEq (a := ()) rfl ?_
  refine wpR_bindA (wpAny_specialOf hT F.bm_no_index ?_)
  refine wpR_if_false rfl ?_
  refine wpR_bindA ?_
  unfold Builtin.Bytes.buffer?
  refine wpAny_bind (wpAny_specialOf hT F.bm_no_buffer ?_)
  refine wpAny_bind (wpAny_specialOf hT F.bm_no_buffer ?_)
  refine wpAny_pure ?_
  refine wpR_bindA (wpAny_typeOf hT ?_)
  refine wpR_if_true rfl ?_
  refine wpR_bindA ?_
  unfold seqItems?
  refine wpAny_bind (wpAny_load hol1 ?_)
  rw [hod]
  refine wpAny_pure ?_
  dsimp only
  have hp : (decide (0 ≤ n) && decide (n < 256)) = true := by simp [h0, h1]
  simp only [List.takeWhile_cons, List.takeWhile_nil, hp, if_true]
  show wpR _ _ (do rule "bytearray.__init__.list-of-ints"; Builtin.Bytes.write (.ref a) (fun _ => #[n.toNat.toUInt8]); ret .none) _ _ _
  refine wpR_bindA (wpAny_rule (wpR_bindA (ba_write e1 (by simp) fun h2' k2 e2 => ?_)))
  exact wpR_pure (h h2' (fun c o nc q => k2 c o nc (k1 c o nc q)) e2)
theorem call_ba1 {l : Addr} {n : Int} {t : Tok} {Q : Value → Shared → Prop} (hl : s.heap.IsList l #[.int n t]) (h0 : 0 ≤ n) (h1 : n < 256) (h : ∀ h', s.heap.StaysIn h' → h'.get? s.heap.objs.size = some (baO [n.toNat.toUInt8]) → Q (.ref s.heap.objs.size) { s with heap := h' }) :
    wpR (model prog w) A (call (.type "bytearray") [.ref l]) Q E s := by
  refine callTypeR (Q₁ := fun obj s₁ => obj = .ref s.heap.objs.size ∧ s₁ = { s with heap := s.heap.push { cls := .type "bytearray", data := .bytearray #[] } }) called_ba (by kernel_rfl) entry_ba_init calm_ba_init (code_ba_new (by kernel_rfl) ⟨rfl, rfl⟩) ?_
  rintro obj s₁ ⟨rfl, rfl⟩
  have ha : (s.heap.push { cls := .type "bytearray", data := .bytearray #[] }).get? s.heap.objs.size = some (baO []) := Heap.get?_push_size _ rfl
  have hne : l ≠ s.heap.objs.size := by obtain ⟨_, e, _⟩ := hl; exact Nat.ne_of_lt (Heap.lt_size e)
  refine ⟨⟨_, ha, rfl⟩, by unfold argsOk; kernel_rfl, init1 ha hne (hl.push _) h0 h1 fun h' k e => ⟨rfl, h h' (fun b o q => k b o (Nat.ne_of_lt (Heap.lt_size q)) (Heap.get?_push_of_some _ q)) e⟩⟩
end
end Nt

set_option Elab.async false
set_option maxRecDepth 100000
open PySem PySem.W PyProof.Rows PySem.Calls
namespace Nt
set_option genInjectivity false
set_option genSizeOf false
set_option compiler.extract_closed false
noncomputable section

structure Sc where
  names : List (Str × NameKind)
  cel : Loc
/-- names, tests, and what they stand on -/
structure EnvOk (W : Wd) (lv : Nat) (f : Fm) (sc : Sc) (loc : Loc) (env : Env) (s : Shared) : Prop where
  lo : ∀ x, sc.names.lookup x = some .local → env.kindOf x = some .local
  gl : ∀ x, sc.names.lookup x = some .globalImplicit → env.kindOf x = some .globalImplicit
  ce : ∀ x p, sc.cel.lookup x = some p → (env.kindOf x = some .cell ∨ env.kindOf x = some .free) ∧ ∃ a v, env.cells.lookup x = some a ∧ s.heap.IsCell a (some v) ∧ Rep [] s.heap p v
  k : env.scope.kind = .function
  eg : env.globals = mainGlobals
  eb : env.builtins = builtinsNs
  ok : f.ok W lv
  fr : ∃ m, Fr f.h₀ f.L s.heap m
  ns : ∃ m, s.heap.Ns env.locals m ∧ Lc [] s.heap m loc
theorem cell_stays {h h' : Heap} {a : Addr} {v : Option Value} (k : h.StaysIn h') (c : h.IsCell a v) : h'.IsCell a v := let ⟨o, e, d⟩ := c; ⟨o, k _ _ e, d⟩
theorem EnvOk.stays {W : Wd} {lv : Nat} {f : Fm} {sc : Sc} {loc : Loc} {env : Env} {s : Shared} {h' : Heap} {tk : Nat} (c : EnvOk W lv f sc loc env s) (k : s.heap.StaysIn h') :
    EnvOk W lv f sc loc env ⟨h', s.gens, s.drawn, tk, s.os⟩ :=
  ⟨c.lo, c.gl, fun x p e => let ⟨a, b, v, e1, e2, e3⟩ := c.ce x p e; ⟨a, b, v, e1, cell_stays k e2, e3.stays k⟩, c.k, c.eg, c.eb, c.ok, c.fr.elim fun m F => ⟨m, F.keeps k⟩, c.ns.elim fun m F => ⟨m, F.1.keeps k, F.2.stays k⟩⟩

noncomputable abbrev Gv (s : Shared) (r : PV) (Q : Value → Shared → Prop) : Prop := Gives' [] s r Q
noncomputable abbrev Spec := List PV → Option (PV × Cond)
/-- what the evaluator knows: global data, callables, methods -/
structure Tb where
  G : Str → Option PV
  C : Str → Option Spec
  Mt : Str → PV → List PV → Option (PV × Cond)
  Cm : CmpOp → PV → PV → Option (Bool × Cond)

/-- a call of a value answers its spec -/
noncomputable def CallOk (W : Wd) (lv : Nat) (fv : Value) (sp : Spec) : Prop :=
  ∀ (f : Fm) (s : Shared) (ps : List PV) (vs : List Value) (Q E : Value → Shared → Prop), f.ok W lv → (∃ m, Fr f.h₀ f.L s.heap m) → Reps [] s.heap ps vs →
    Ok (sp ps) fun r => Gv s r Q → wpR (model W.prog W.w) f.A (call fv vs) Q E s
noncomputable def NameIs (W : Wd) (x : Str) (fv : Value) : Prop := nsIn W.K mainGlobals x = some (some fv) ∨ (nsIn W.K mainGlobals x = some none ∧ bootBuiltins x = some fv ∧ x ≠ "__name__")
noncomputable def Keeps' (W : Wd) (fv : Value) : Prop := ∀ h, W.K.In h → ∃ k, (k = Keeper.frame ∨ k = Keeper.machine ∨ k = Keeper.boundFrame) ∧ Looks (model W.prog W.w) h (keeperOf fv) k
/-- a method of a value answers its spec -/
noncomputable def MethOk (W : Wd) (lv : Nat) (x : Str) (o : PV) (ps : List PV) (r : PV) : Prop := ∀ (f : Fm) (s : Shared) (v : Value) (pl : Sem Bool) (Q' : Value × List Value → Shared → Prop) (E' : Value → Shared → Prop),
    f.ok W lv → (∃ m, Fr f.h₀ f.L s.heap m) → Rep [] s.heap o v →
    (∀ fx : Value × List Value, Keeps' W fx.1 → (∀ (s' : Shared) (us : List Value) (Q E : Value → Shared → Prop), (∃ m, Fr f.h₀ f.L s'.heap m) → s.heap.StaysIn s'.heap → Reps [] s'.heap ps us → Gv s' r Q →
      wpR (model W.prog W.w) f.A (call fx.1 (fx.2 ++ us)) Q E s') → Q' fx s) →
    wpAny (model W.prog W.w) f.A (getMethod v x pl) Q' E' s
structure TbOk (W : Wd) (lv : Nat) (T : Tb) : Prop where
  g : ∀ x p, T.G x = some p → ∃ v, nsIn W.K mainGlobals x = some (some v) ∧ Rp p v
  c : ∀ x sp, T.C x = some sp → ∃ fv, NameIs W x fv ∧ Keeps' W fv ∧ CallOk W lv fv sp
  m : ∀ (x : Str) (o : PV) (ps : List PV), Ok (T.Mt x o ps) fun r => MethOk W lv x o ps r
  cm : ∀ (op : CmpOp) (a b : PV), Ok (T.Cm op a b) fun r => ∀ (A : Around) (s : Shared) (x y : Value) (Q E : Value → Shared → Prop), A.units + 64 < cLine → Rep [] s.heap a x → Rep [] s.heap b y → Q (.bool r) s → wpAny (model W.prog W.w) A (compareOp op x y) Q E s

/-- a literal -/
noncomputable def constPV : Const → Option (PV × Cond)
  | .none => some (.none, none)
  | .bool b => some (.bool b, none)
  | .int i => some (.int i, none)
  | .str x => some (.str x, none)
  | .bytes b => some (.bytes b, none)
  | _ => none
noncomputable def isStar : Expr → Bool
  | .Starred .. => true
  | _ => false
/-- a base that is a bare call without arguments is looked at otherwise -/
noncomputable def bareCall : Expr → Bool
  | .Call (.Name ..) [] [] _ => true
  | _ => false
noncomputable def isSet : Expr → Bool
  | .Set .. => true
  | _ => false

noncomputable abbrev Rec := Sc → Loc → Expr → Option (PV × Cond)
noncomputable abbrev RecT := Sc → Loc → Expr → Option (Bool × Cond)
noncomputable def evs (rec : Rec) (sc : Sc) (loc : Loc) : List Expr → Option (List PV × Cond)
  | [] => some ([], none)
  | e :: es => onlyIf (!isStar e) (seq (rec sc loc e) fun p => seq (evs rec sc loc es) fun ps => some (p :: ps, none))
noncomputable def joinPV (c : Bool) (a b : PV) : Option (PV × Cond) :=
  alt (with_ a.int? fun x => with_ b.int? fun y => some (.int (cond c x.1 y.1), none))
    (alt (with_ a.bytes? fun x => with_ b.bytes? fun y => some (.bytes (cond c x.1 y.1), none))
      (alt (with_ a.str? fun x => with_ b.str? fun y => some (.str (cond c x.1 y.1), none))
        (alt (with_ a.rl? fun x => with_ b.rl? fun y => some (.rl (cond c x.1 y.1), none))
          (with_ a.rl? fun x => with_ b.il? fun y => some (.rl (cond c x.1 []), some (y.1 = []))))))
noncomputable def PV.pair? : (p : PV) → Option {i : PV × PV // p = .pair i.1 i.2}
  | .pair a b => some ⟨(a, b), rfl⟩
  | _ => Option.none
noncomputable def isZero : Expr → Bool
  | .Constant (.int 0) _ _ => true
  | _ => false
noncomputable def isOne : Expr → Bool
  | .Constant (.int 1) _ _ => true
  | _ => false
noncomputable def itemPV (e : Expr) (o i : PV) : Option (PV × Cond) := with_ i.int? fun i =>
  alt (with_ o.bytes? fun b => some (.int (b.1.getD i.1.toNat 0).toNat, some (0 ≤ i.1 ∧ i.1 < (b.1.length : Int) ∧ b.1.length ≤ 1048576)))
    (alt (with_ o.rl? fun b => some (.bytes (b.1.getD i.1.toNat []), some (0 ≤ i.1 ∧ i.1 < (b.1.length : Int) ∧ b.1.length ≤ 1048576)))
      (alt (with_ o.il? fun b => some (.int (b.1.getD i.1.toNat 0), some (0 ≤ i.1 ∧ i.1 < (b.1.length : Int) ∧ b.1.length ≤ 1048576)))
        (with_ o.pair? fun b => alt (onlyIf (isZero e) (some (b.1.1, some (i.1 = 0)))) (alt (onlyIf (isOne e) (some (b.1.2, some (i.1 = 1))))
          (seq (joinPV (i.1 == 0) b.1.1 b.1.2) fun r => some (r, some (i.1 = 0 ∨ i.1 = 1)))))))
noncomputable def partPV (rec : Rec) (sc : Sc) (loc : Loc) : Option Expr → Option (Option Int × Cond)
  | none => some (none, none)
  | some e => seq (rec sc loc e) fun p => with_ p.int? fun i => some (some i.1, none)
noncomputable def cutPV (o : PV) (lo hi : Option Int) : Option (PV × Cond) :=
  alt (with_ o.bytes? fun b => some (.bytes (cut b.1 lo hi), some (b.1.length ≤ 16777216)))
    (alt (with_ o.rl? fun b => some (.rl (cut b.1 lo hi), some (b.1.length ≤ 16777216)))
      (alt (with_ o.il? fun b => some (.il (cut b.1 lo hi), some (b.1.length ≤ 16777216)))
        (with_ o.ba? fun b => match lo, hi with
          | none, some n => some (.ba (cut b.1 none (some n)), some (b.1.length ≤ 16777216))
          | _, _ => none)))
noncomputable def revPV (o st : PV) : Option (PV × Cond) := with_ o.il? fun b => with_ st.int? fun i => some (.il b.1.reverse, some (i.1 = -1 ∧ b.1.length ≤ 16777216))
noncomputable def unPV (op : UnaryOp) (a : PV) : Option (PV × Cond) := match op with
  | .USub => with_ a.int? fun x => some (.int (-x.1), none)
  | _ => none
noncomputable def nameEv (T : Tb) (sc : Sc) (loc : Loc) (x : Str) : Option (PV × Cond) := onlyIf (!(x == ("__debug__" : Str))) (alt (onlyIf (!(x == ("__classdict__" : Str))) ((sc.cel.lookup x).map (·, none))) (with_ (sc.names.lookup x) fun k => match k with
  | .local => (loc.lookup x).map (·, none)
  | .globalImplicit => (T.G x).map (·, none)
  | _ => none))
/-- a callable's spec, by its name -/
noncomputable def callee (T : Tb) (sc : Sc) (x : Str) : Option Spec := onlyIf (!(x == ("__debug__" : Str))) (with_ (sc.names.lookup x) fun k => match k with
  | .globalImplicit => T.C x
  | _ => none)
noncomputable def ifPV (t : Option (Bool × Cond)) (a b : Option (PV × Cond)) : Option (PV × Cond) := with_ t fun t => with_ a fun a => with_ b fun b => seq (joinPV t.1 a.1 b.1) fun r => some (r, t.2.and ((Cond.imp (t.1 = true) a.2).and (Cond.imp (t.1 = false) b.2)))

noncomputable def isMul : Operator → Bool
  | .Mult => true
  | _ => false
theorem isMul_eq {op : Operator} (h : isMul op = true) : op = .Mult := by cases op <;> first | rfl | cases h
noncomputable def evBin' (op : Operator) (a b : PV) : Option (PV × Cond) :=
  alt (evBin op a b) (alt (onlyIf (isAdd op) (with_ a.il? fun x => with_ b.il? fun y => some (.il (x.1 ++ y.1), some (x.1.length + y.1.length ≤ 16777216))))
    (alt (onlyIf (isAdd op) (with_ a.rl? fun x => with_ b.rl? fun y => some (.rl (x.1 ++ y.1), some (x.1.length + y.1.length ≤ 16777216))))
      (alt (onlyIf (isMul op) (with_ a.bytes? fun x => with_ b.int? fun y => some (.bytes (List.replicate y.1.toNat x.1).flatten, some ((x.1 ≠ [] ∧ 0 ≤ y.1 ∧ y.1 ≤ 1048576 ∧ x.1.length ≤ 16) ∨ ((y.1 = 1 ∨ y.1 = 2) ∧ x.1.length ≤ 1000000)))))
        (onlyIf (isMul op) (with_ a.rl? fun x => with_ b.int? fun y => some (.rl (List.replicate y.1.toNat x.1).flatten, some (0 ≤ y.1 ∧ y.1 ≤ 1048576 ∧ x.1.length * y.1.toNat ≤ 256)))))))
/-- the join of the displays -/
noncomputable def intsOf : List PV → Option (List Int × Cond)
  | [] => some ([], none)
  | p :: ps => with_ p.int? fun i => seq (intsOf ps) fun is => some (i.1 :: is, none)
noncomputable def bytsOf : List PV → Option (List (List UInt8) × Cond)
  | [] => some ([], none)
  | p :: ps => with_ p.bytes? fun i => seq (bytsOf ps) fun is => some (i.1 :: is, none)
noncomputable def listPV (ps : List PV) : Option (PV × Cond) := alt (seq (intsOf ps) fun l => some (.il l, some (l.length ≤ 16777216))) (seq (bytsOf ps) fun l => some (.rl l, some (l.length ≤ 16777216)))
noncomputable def tupPV : List PV → Option (PV × Cond)
  | [p, q] => some (.pair p q, none)
  | [p, q, r] => some (.trip p q r, none)
  | _ => none

/-- comprehensions -/
noncomputable def turnT (recT : RecT) (sc : Sc) (x : Str) (ifs : List Expr) (q : PV) : Option (Bool × Cond) := match ifs with
  | [] => some (true, none)
  | [c] => recT sc [(x, q)] c
  | _ => none
noncomputable def bit (o : Option (Bool × Cond)) : Bool := o.elim false (·.1)
noncomputable def met {α : Type} (o : Option (α × Cond)) : Prop := match o with
  | some a => a.2.holds
  | none => False
theorem met_use {α : Type} {o : Option (α × Cond)} (h : met o) : ∃ a c, o = some (a, c) ∧ c.holds := by
  cases o with
  | none => exact h.elim
  | some a => exact ⟨a.1, a.2, rfl, h⟩
noncomputable def asInt (o : Option (PV × Cond)) : Int := o.elim 0 fun a => a.1.int?.elim 0 (·.1)
noncomputable def asStr (o : Option (PV × Cond)) : Str := o.elim Str.empty fun a => a.1.str?.elim Str.empty (·.1)
noncomputable def asByt (o : Option (PV × Cond)) : List UInt8 := o.elim [] fun a => a.1.bytes?.elim [] (·.1)
noncomputable def metI (o : Option (PV × Cond)) : Prop := met (with_ o fun a => with_ a.1.int? fun _ => some (a.1, a.2))
noncomputable def metS (o : Option (PV × Cond)) : Prop := met (with_ o fun a => with_ a.1.str? fun _ => some (a.1, a.2))
noncomputable def metB (o : Option (PV × Cond)) : Prop := met (with_ o fun a => with_ a.1.bytes? fun _ => some (a.1, a.2))
noncomputable def compPV (rec : Rec) (recT : RecT) (sc : Sc) (x : Str) (ifs : List Expr) (elt : Expr) (o : PV) : Option (PV × Cond) :=
  seq (srcPV o) fun q =>
    let c (mt : Option (PV × Cond) → Prop) : Cond := some (q.1.length ≤ 16777216 ∧ ∀ p ∈ q.1, met (turnT recT sc x ifs p) ∧ (bit (turnT recT sc x ifs p) = true → mt (rec sc [(x, p)] elt)))
    with_ (rec sc [(x, q.2)] elt) fun d =>
      alt (with_ d.1.int? fun _ => some (.il ((q.1.filter fun p => bit (turnT recT sc x ifs p)).map fun p => asInt (rec sc [(x, p)] elt)), c metI))
        (alt (with_ d.1.str? fun _ => some (.sl ((q.1.filter fun p => bit (turnT recT sc x ifs p)).map fun p => asStr (rec sc [(x, p)] elt)), c metS))
          (with_ d.1.bytes? fun _ => some (.rl ((q.1.filter fun p => bit (turnT recT sc x ifs p)).map fun p => asByt (rec sc [(x, p)] elt)), c metB)))
/-- a comprehension's own scope, with nothing of the scopes around -/
noncomputable def ownScope (scope : Scope) (x : Str) : Bool := scope.names.all (fun y => y.2 != .free && y.2 != .cell && (y.2 != .local || scope.names.lookup y.1 == some .local)) && scope.kind == .function && scope.names.lookup x == some .local
noncomputable def nameOf? : Expr → Option Str
  | .Name x _ => some x
  | _ => none
/-- a comprehension's scope that reads the frame's cells, all of them -/
noncomputable def cellScope (cel : Loc) (scope : Scope) (x : Str) : Bool := scope.names.all (fun y => y.2 != .cell && (y.2 != .local || scope.names.lookup y.1 == some .local) && (y.2 != .free || (cel.lookup y.1).isSome)) && scope.kind == .function && scope.names.lookup x == some .local && cel.all (fun y => scope.names.lookup y.1 == some .free)
noncomputable def evComp (rec : Rec) (recT : RecT) (sc : Sc) (loc : Loc) (elt : Expr) (scope : Scope) (ta it : Expr) (ifs : List Expr) (k : Int) : Option (PV × Cond) :=
  onlyIf (k == 0) (with_ (nameOf? ta) fun x => alt (onlyIf (!isSet it && ownScope scope x) (seq (rec sc loc it) fun o => compPV rec recT ⟨scope.names, []⟩ x ifs elt o))
    (onlyIf (!isSet it && cellScope sc.cel scope x) (seq (rec sc loc it) fun o => compPV rec recT ⟨scope.names, sc.cel⟩ x ifs elt o)))

noncomputable def evSub (rec : Rec) (sc : Sc) (loc : Loc) (v : Expr) : Expr → Option (PV × Cond)
  | .Slice lo hi none _ => seq (rec sc loc v) fun o => seq (partPV rec sc loc lo) fun l => seq (partPV rec sc loc hi) fun h => cutPV o l h
  | .Slice none none (some st) _ => seq (rec sc loc v) fun o => seq (rec sc loc st) fun k => revPV o k
  | i => onlyIf (!isSlice i) (seq (rec sc loc v) fun o => seq (rec sc loc i) fun j => itemPV i o j)
noncomputable def evCall (T : Tb) (rec : Rec) (sc : Sc) (loc : Loc) (as : List Expr) (pos : Pos) : Expr → Option (PV × Cond)
  | .Name x _ => with_ (callee T sc x) fun sp => seq (evs rec sc loc as) fun ps => sp ps
  | .Attribute o x apos => onlyIf (!bareCall o && apos.endLine == pos.line && Nat.blt as.length 30) (seq (rec sc loc o) fun p => seq (evs rec sc loc as) fun ps => T.Mt x p ps)
  | _ => none
noncomputable def evStep (T : Tb) (rec : Rec) (recT : RecT) (sc : Sc) (loc : Loc) : Expr → Option (PV × Cond)
  | .Constant c _ _ => constPV c
  | .Name x _ => nameEv T sc loc x
  | .BinOp l op r _ => seq (rec sc loc l) fun a => seq (rec sc loc r) fun b => evBin' op a b
  | .UnaryOp op x _ => seq (rec sc loc x) fun a => unPV op a
  | .IfExp t a b _ => ifPV (recT sc loc t) (rec sc loc a) (rec sc loc b)
  | .Subscript v i _ => evSub rec sc loc v i
  | .Tuple es _ _ => seq (evs rec sc loc es) tupPV
  | .List es _ => seq (evs rec sc loc es) listPV
  | .Call fn as [] pos => evCall T rec sc loc as pos fn
  | .ListComp elt [⟨ta, it, ifs, k⟩] scope _ => evComp rec recT sc loc elt scope ta it ifs k
  | _ => none

noncomputable def PV.isNone : PV → Bool
  | .none => true
  | _ => false
noncomputable def cmpInt (op : CmpOp) (x y : Int) : Option (Bool × Cond) := match op with
  | .Eq => some (x == y, none)
  | .NotEq => some (x != y, none)
  | .Lt => some (decide (x < y), none)
  | .LtE => some (decide (x ≤ y), none)
  | .Gt => some (decide (y < x), none)
  | .GtE => some (decide (y ≤ x), none)
  | _ => none
noncomputable def cmpByt (op : CmpOp) (x y : List UInt8) : Option (Bool × Cond) := match op with
  | .Eq => some (x == y, none)
  | .NotEq => some (x != y, none)
  | _ => none
noncomputable def cmpIl (op : CmpOp) (x y : List Int) : Option (Bool × Cond) := match op with
  | .Eq => some (decide (x = y), none)
  | .NotEq => some (!decide (x = y), none)
  | _ => none
noncomputable def cmpNone (op : CmpOp) (a : PV) : Option (Bool × Cond) := match op with
  | .Is => some (a.isNone, none)
  | .IsNot => some (!a.isNone, none)
  | _ => none
noncomputable def cmpPV (T : Tb) (op : CmpOp) (a b : PV) : Option (Bool × Cond) :=
  alt (onlyIf b.isNone (cmpNone op a))
    (alt (with_ a.int? fun x => with_ b.int? fun y => cmpInt op x.1 y.1)
      (alt (with_ a.bytes? fun x => with_ b.bytes? fun y => cmpByt op x.1 y.1)
        (alt (with_ a.il? fun x => with_ b.il? fun y => cmpIl op x.1 y.1) (T.Cm op a b))))
/-- is a value in a display of bytes -/
noncomputable def inPV (op : CmpOp) (a : PV) (l : List (List UInt8)) : Option (Bool × Cond) := with_ a.bytes? fun x => match op with
  | .In => some (l.any (· == x.1), some (l.length ≤ 64))
  | .NotIn => some (!l.any (· == x.1), some (l.length ≤ 64))
  | _ => none
noncomputable def isIn : CmpOp → Bool
  | .In | .NotIn => true
  | _ => false
noncomputable def evCmp (T : Tb) (rec : Rec) (sc : Sc) (loc : Loc) (l : Expr) (op : CmpOp) : Expr → Option (Bool × Cond)
  | .Tuple es _ _ => onlyIf (isIn op) (seq (rec sc loc l) fun a => seq (evs rec sc loc es) fun ps => seq (bytsOf ps) fun bs => inPV op a bs)
  | r => onlyIf (!behindInMarks op r) (seq (rec sc loc l) fun a => seq (rec sc loc r) fun b => cmpPV T op a b)
noncomputable def evChain (T : Tb) (rec : Rec) (sc : Sc) (loc : Loc) (l r₁ r₂ : Expr) (o₁ o₂ : CmpOp) : Option (Bool × Cond) :=
  onlyIf (!lastMarks [o₁, o₂] [r₁, r₂]) (seq (rec sc loc l) fun a => seq (rec sc loc r₁) fun b => seq (cmpPV T o₁ a b) fun x => with_ (rec sc loc r₂) fun d => with_ (cmpPV T o₂ b d.1) fun y => some (x && y.1, Cond.imp (x = true) (d.2.and y.2)))
noncomputable def evAll (recT : RecT) (sc : Sc) (loc : Loc) : List Expr → Option (Bool × Cond)
  | [] => some (true, none)
  | e :: es => seq (recT sc loc e) fun x => alt (with_ (evAll recT sc loc es) fun y => some (x && y.1, Cond.imp (x = true) y.2)) (some (false, some (x = false)))
noncomputable def evAny (recT : RecT) (sc : Sc) (loc : Loc) : List Expr → Option (Bool × Cond)
  | [] => some (false, none)
  | e :: es => seq (recT sc loc e) fun x => alt (with_ (evAny recT sc loc es) fun y => some (x || y.1, Cond.imp (x = false) y.2)) (some (true, some (x = true)))
noncomputable def evTStep (T : Tb) (rec : Rec) (recT : RecT) (sc : Sc) (loc : Loc) : Expr → Option (Bool × Cond)
  | .Constant (.bool b) _ _ => some (b, none)
  | .UnaryOp .Not x _ => seq (recT sc loc x) fun b => some (!b, none)
  | .BoolOp .And es _ => evAll recT sc loc es
  | .BoolOp .Or es _ => evAny recT sc loc es
  | .Compare l [op] [r] _ => evCmp T rec sc loc l op r
  | .Compare l [o₁, o₂] [r₁, r₂] _ => evChain T rec sc loc l r₁ r₂ o₁ o₂
  | _ => none
noncomputable def ev (T : Tb) : Nat → Rec × RecT
  | 0 => (fun _ _ _ => none, fun _ _ _ => none)
  | n + 1 => (evStep T (ev T n).1 (ev T n).2, evTStep T (ev T n).1 (ev T n).2)

/-- the evaluator's word on an expression holds -/
noncomputable def Snd (W : Wd) (lv : Nat) (sc : Sc) (loc : Loc) (e : Expr) (p : PV) : Prop :=
  ∀ (f : Fm) (env : Env) (s : Shared) (Q E : Value → Shared → Prop), EnvOk W lv f sc loc env s → Gv s p Q → wpR (model W.prog W.w) f.A (eval e env) Q E s
noncomputable def SndT (W : Wd) (lv : Nat) (sc : Sc) (loc : Loc) (e : Expr) (b : Bool) : Prop :=
  ∀ (f : Fm) (env : Env) (s : Shared) (Q : Bool → Shared → Prop) (E : Value → Shared → Prop), EnvOk W lv f sc loc env s →
    (∀ h' tk, s.heap.StaysIn h' → Q b ⟨h', s.gens, s.drawn, tk, s.os⟩) → wpR (model W.prog W.w) f.A (isTrue e env (eval e env)) Q E s
end
end Nt

set_option Elab.async false
set_option maxRecDepth 100000
open PySem PySem.W PyProof.Rows PySem.Calls
namespace Nt
set_option genInjectivity false
set_option genSizeOf false
set_option linter.all false

section
variable {W : Wd} {lv : Nat} {T : Tb} {sc : Sc} {loc : Loc} {f : Fm} {env : Env} {s : Shared} {Q E : Value → Shared → Prop}
theorem EnvOk.heapK (c : EnvOk W lv f sc loc env s) : W.K.In s.heap := c.fr.elim fun _ F => c.ok.X.keeps F.keep
theorem EnvOk.nsG (c : EnvOk W lv f sc loc env s) : s.heap.Ns env.globals W.mg := by rw [c.eg]; exact c.fr.elim fun _ F => c.ok.T.g.keeps F.keep
theorem EnvOk.nsB (c : EnvOk W lv f sc loc env s) : s.heap.Ns env.builtins W.mb := by rw [c.eb]; exact c.fr.elim fun _ F => c.ok.T.b.keeps F.keep
theorem Gives'.self {r : PV} {v : Value} (g : Gv s r Q) (h : Rep [] s.heap r v) (tk : Nat) : Q v ⟨s.heap, s.gens, s.drawn, tk, s.os⟩ := g _ _ _ (stays_refl _) h
theorem Gives'.after {r : PV} {h' : Heap} {tk : Nat} (g : Gv s r Q) (k : s.heap.StaysIn h') : Gv ⟨h', s.gens, s.drawn, tk, s.os⟩ r Q := fun v h'' tk' k' r' => g v h'' tk' (stays_trans k k') r'

theorem const_ok : ∀ c k pos, Ok (constPV c) fun p => Snd W lv sc loc (.Constant c k pos) p
  | .none, _, _ => .some fun _ _ _ _ _ _ _ g => wpR_of (Constant_none (g.self rfl _))
  | .bool _, _, _ => .some fun _ _ _ _ _ _ _ g => wpR_of (Constant_bool (g.self rfl _))
  | .int _, _, _ => .some fun _ _ _ _ _ _ _ g => fun _ _ _ _ _ => g.self ⟨_, rfl⟩ _
  | .str _, _, _ => .some fun _ _ _ _ _ _ _ g => wpR_of (Constant_str (g.self ⟨_, rfl⟩ _))
  | .bytes _, _, _ => .some fun _ _ _ _ _ _ _ g => fun _ _ _ _ _ => g.self ⟨_, rfl⟩ _
  | .float _, _, _ | .ellipsis, _, _ | .complex .., _, _ => .none

theorem name_ok {x : Str} {pos : Pos} (hT : TbOk W lv T) : Ok (nameEv T sc loc x) fun p => Snd W lv sc loc (.Name x pos) p := by
  refine .onlyIf fun hd => .alt (.onlyIf fun hd2 => ?_) (.with_ fun k hk => ?_)
  all_goals have hd' : (x == ("__debug__" : Str)) = false := by simpa using hd
  · have hd3 : (x == ("__classdict__" : Str)) = false := by simpa using hd2
    intro p c e _ f env s Q E C g
    obtain ⟨q, e1, e2⟩ := Option.map_eq_some_iff.mp e
    cases e2
    obtain ⟨hk, a, v, h1, h2, h3⟩ := C.ce x p e1
    rcases hk with hk | hk
    · exact wpR_of (wpAny_Name (wpAny_loadName_cell C.k hk h1 h2 (g.self h3 _)) hd')
    · exact wpR_of (wpAny_Name (wpAny_loadName_free C.k hk h1 h2 (g.self h3 _) hd3) hd')
  cases k with
  | «local» =>
    intro p c e _ f env s Q E C g
    obtain ⟨q, e1, e2⟩ := Option.map_eq_some_iff.mp e
    cases e2
    obtain ⟨m, hn, hl⟩ := C.ns
    obtain ⟨v, hv, hr⟩ := hl x p e1
    exact wpR_of (wpAny_Name (wpAny_loadName_local C.k (C.lo x hk) hn hv (g.self hr _)) hd')
  | globalImplicit =>
    intro p c e _ f env s Q E C g
    obtain ⟨q, e1, e2⟩ := Option.map_eq_some_iff.mp e
    cases e2
    obtain ⟨v, hv, hr⟩ := hT.g x p e1
    exact wpR_of (Name_function_global C.k (C.gl x hk) (loadGlobal_global C.nsG (mg_of C.ok.X C.ok.T.g hv) (g.self (hr _ _) _)) hd')
  | _ => exact .none

theorem callee_ok {x : Str} {pos : Pos} (hT : TbOk W lv T) {sp : Spec} (hc : callee T sc x = some sp) : ∃ fv, Keeps' W fv ∧ CallOk W lv fv sp ∧
    ∀ (f : Fm) (env : Env) (s : Shared) (Q E : Value → Shared → Prop), EnvOk W lv f sc loc env s → Q fv s → wpR (model W.prog W.w) f.A (eval (.Name x pos) env) Q E s := by
  obtain ⟨hd, hc⟩ := onlyIf_use hc
  have hd' : (x == ("__debug__" : Str)) = false := by simpa using hd
  obtain ⟨k, hk, hc⟩ := with_use hc
  cases k with
  | globalImplicit =>
    obtain ⟨fv, hn, hkp, hco⟩ := hT.c x sp hc
    refine ⟨fv, hkp, hco, fun f env s Q E C g => ?_⟩
    rcases hn with hn | ⟨hn1, hn2, hn3⟩
    · exact wpR_of (Name_function_global C.k (C.gl x hk) (loadGlobal_global C.nsG (mg_of C.ok.X C.ok.T.g hn) g) hd')
    · exact wpR_of (Name_function_global C.k (C.gl x hk) (loadGlobal_builtin C.nsG (mg_none_of C.ok.X C.ok.T.g hn1) C.nsB ((C.ok.T.builtins x hn3).trans hn2) g) hd')
  | _ => exact no_ hc

theorem BytesAre.flat {l : List (List UInt8)} {vs : List Value} (h : BytesAre vs l) : ∀ n : Nat, BytesAre (List.replicate n vs).flatten (List.replicate n l).flatten
  | 0 => rfl
  | n + 1 => by rw [List.replicate_succ, List.replicate_succ, List.flatten_cons, List.flatten_cons]; exact h.append (h.flat n)
theorem mulL {prog : Program} {w : World} {A : Around} {l : Addr} {vs : List Value} {x : Int} {u : Tok} (hl : s.heap.IsList l vs.toArray) (hlo : -(2 ^ 63 : Int) ≤ x) (hhi : x < 2 ^ 63) (hsz : vs.length * x.toNat ≤ 256)
    (h : Q (.ref s.heap.objs.size) { s with heap := s.heap.push { cls := .type "list", data := .seq (List.replicate x.toNat vs).flatten.toArray } }) : wpAny (model prog w) A (binaryOp .Mult (.ref l) (.int x u)) Q E s := by
  obtain ⟨⟨cls, d, data, sl⟩, ho, hcl, k, hd⟩ := id hl
  simp only at hcl hd
  subst hcl hd
  have hsz' : vs.toArray.size * x.toNat ≤ 256 := by simpa using hsz
  refine wpAny_binaryOp_repeat_ref (T := "list") (U := "int") (by decide) ⟨_, ho, rfl⟩ (fun s' => typeIs_int s' x u) noFill_list_mul F.fills_int_mul F.slot_int_rmul repeat_list F.slot_int_index.lookup
    (call_meets F.slot_int_rmul (typeIs_int s x u) F.entry_int_rmul (F.args_int_rmul_2 _ _) (lm_int_rmul_list_any x u l vs.toArray k d sl)
      ⟨ho, rfl, ⟨_, ho, rfl⟩, call_meets F.slot_list_mul ⟨_, ho, rfl⟩ F.entry_list_mul (F.args_list_mul_2 _ _)
        (lm_list_mul_any l vs.toArray k d sl x u (by simp [Builtin.List.listFitsIndex]; lia) (by lia) (by simp [Builtin.List.listTooLong, sizeLine]; lia))
        ⟨ho, ?_⟩⟩)
  rw [listMul_foldl_if]
  exact h
theorem gives_same {b : Array UInt8} {n : Int} {t u : Tok} (hf : Builtin.Bytes.fitsIndex n = true) (h63 : ¬ b.size * n.toNat ≥ 2 ^ 63) (he : (b.size * n.toNat == b.size) = true) : Gives (Builtin.«bytes.__mul__» ⟨[.bytes b t, .int n u], []⟩) (.val (.bytes b t)) := by
  refine .of_wp fun M A E s Q hq => ?_
  show wpAny M A (Builtin.Bytes.repeatArgs .bytes "__mul__" ⟨[.bytes b t, .int n u], []⟩ >>= fun r => _) _ E s
  refine wpAny_bind (wpAny_of_eq (BMul.args_eq hf) (wpAny_bind (wpAny_of_eq (a := b) rfl ?_)))
  show wpAny M A (if b.size * n.toNat ≥ 2 ^ 63 then _ else _) _ E s
  rw [if_neg h63]
  exact bm_if_true he (wpAny_bind (wpAny_typeOf (typeIs_bytes s b t) (wpAny_bind (wpAny_rule (wpAny_pure ⟨_, rfl, hq⟩)))))
theorem bytes_mul12 {prog : Program} {w : World} {A : Around} {E : Value → Shared → Prop} {s : Shared} {b : List UInt8} {n : Int} {t u : Tok} {Q : Value → Shared → Prop} (hn : n = 1 ∨ n = 2) (hs : b.length ≤ 1000000) (h : ∀ t' k, Q (.bytes ((List.replicate n.toNat b).flatten).toArray t') { s with toks := k }) :
    wpAny (model prog w) A (binaryOp .Mult (.bytes b.toArray t) (.int n u)) Q E s := by
  have hz : b.toArray.size = b.length := List.size_toArray
  by_cases same : n = 1 ∨ b = []
  · have hfl : (List.replicate n.toNat b).flatten = b := by
      rcases same with rfl | rfl
      · simp
      · simp
    have he : (b.toArray.size * n.toNat == b.toArray.size) = true := by
      rw [hz]
      rcases same with rfl | rfl <;> simp
    have hf : Builtin.Bytes.fitsIndex n = true := by rcases hn with rfl | rfl <;> decide
    have h63 : ¬ b.toArray.size * n.toNat ≥ 2 ^ 63 := by
      rw [hz]
      rcases hn with rfl | rfl
      · show ¬ b.length * 1 ≥ 9223372036854775808; lia
      · show ¬ b.length * 2 ≥ 9223372036854775808; lia
    refine wpAny_binaryOp_repeat (T := "bytes") (U := "int") (by decide) (fun s' => typeIs_bytes s' _ t) (fun s' => typeIs_int s' n u) BMul.noFill F.fills_int_mul F.slot_int_rmul BMul.repeats F.slot_int_index.lookup
      (call_gives F.slot_int_rmul (typeIs_int s n u) F.entry_int_rmul (F.args_int_rmul_2 _ _) (BMul.int_declines n u _ t)
        ⟨rfl, call_gives BMul.slot_mul (typeIs_bytes s _ t) BMul.entry_mul (BMul.args_mul _ _) (gives_same hf h63 he) ?_⟩)
    have := h t s.toks
    rw [hfl] at this
    exact this
  · rw [not_or] at same
    have h2 : n = 2 := hn.resolve_left same.1
    subst h2
    exact bytes_mul_K same.2 (by decide) (by decide) (by show b.length * 2 ≤ _; lia) rfl h
theorem evBin'_ok {prog : Program} {w : World} {A : Around} {op : Operator} {a b : PV} {x y : Value} (ha : Rep [] s.heap a x) (hb : Rep [] s.heap b y) :
    Ok (evBin' op a b) fun r => Gv s r Q → wpAny (model prog w) A (binaryOp op x y) Q E s := by
  refine .alt (evBin_ok ha hb) (.alt (.onlyIf fun ho => .with_ fun i _ => .with_ fun j _ => .some fun hc h => ?_) (.alt (.onlyIf fun ho => .with_ fun i _ => .with_ fun j _ => .some fun hc h => ?_)
    (.alt (.onlyIf fun ho => .with_ fun i _ => .with_ fun j _ => .some fun hc h => ?_) (.onlyIf fun ho => .with_ fun i _ => .with_ fun j _ => .some fun hc h => ?_))))
  · obtain ⟨l, vs, rfl, _, hl, hi⟩ := ha.at i.2
    obtain ⟨l', vs', rfl, _, hl', hi'⟩ := hb.at j.2
    rw [isAdd_eq ho]
    exact addL hl hl' (by rw [hi.length, hi'.length, sizeLine_eq]; exact hc) (h _ _ _ (stays_push _ _) ⟨_, _, rfl, List.not_mem_nil, isList_new _ _, hi.append hi'⟩)
  · obtain ⟨l, vs, rfl, _, hl, hi⟩ := ha.at i.2
    obtain ⟨l', vs', rfl, _, hl', hi'⟩ := hb.at j.2
    rw [isAdd_eq ho]
    exact addL hl hl' (by rw [hi.length, hi'.length, sizeLine_eq]; exact hc) (h _ _ _ (stays_push _ _) ⟨_, _, rfl, List.not_mem_nil, isList_new _ _, hi.append hi'⟩)
  · obtain ⟨t, rfl⟩ := ha.at i.2
    obtain ⟨u, rfl⟩ := hb.at j.2
    rw [isMul_eq ho]
    rcases (show _ ∨ _ from hc) with hc | hc
    · exact bytes_mul_any hc.1 (by have := hc.2.1; lia) hc.2.2.1 hc.2.2.2 fun t' k => h.bytes t' k
    · exact bytes_mul12 hc.1 hc.2 fun t' k => h.bytes t' k
  · obtain ⟨l, vs, rfl, _, hl, hi⟩ := ha.at i.2
    obtain ⟨u, rfl⟩ := hb.at j.2
    rw [isMul_eq ho]
    exact mulL hl (by have := hc.1; lia) (by have := hc.2.1; lia) (by rw [hi.length]; exact hc.2.2) (h _ _ _ (stays_push _ _) ⟨_, _, rfl, List.not_mem_nil, isList_new _ _, hi.flat _⟩)

/-- the evaluator's word on the parts -/
noncomputable def RecOk (W : Wd) (lv : Nat) (rec : Rec) : Prop := ∀ sc loc e, Ok (rec sc loc e) fun p => Snd W lv sc loc e p
noncomputable def RecTOk (W : Wd) (lv : Nat) (rec : RecT) : Prop := ∀ sc loc e, Ok (rec sc loc e) fun p => SndT W lv sc loc e p
variable {rec : Rec} {recT : RecT}
theorem bin_ok (hr : RecOk W lv rec) {l r op pos} : Ok (seq (rec sc loc l) fun a => seq (rec sc loc r) fun b => evBin' op a b) fun p => Snd W lv sc loc (.BinOp l op r pos) p :=
  .seq (hr sc loc l) fun a ha => .seq (hr sc loc r) fun b hb => fun p c e hc f env s Q E C g =>
    binR (ha f env s _ E C fun va h1 tk1 k1 ra => hb f env _ _ E (C.stays k1) fun vb h2 tk2 k2 rb => wpR_of (evBin'_ok (ra.stays k2) rb p c e hc (g.after (stays_trans k1 k2))))
theorem un_ok (hr : RecOk W lv rec) {x op pos} : Ok (seq (rec sc loc x) fun a => unPV op a) fun p => Snd W lv sc loc (.UnaryOp op x pos) p := by
  refine .seq (hr sc loc x) fun a ha => ?_
  unfold unPV
  cases op with
  | USub =>
    exact .with_ fun i _ => .some fun _ f env s Q E C g => unR (ha f env s _ E C fun va h1 tk1 k1 ra => by
      obtain ⟨t, rfl⟩ := ra.at i.2
      exact wpR_of (P.neg_int ((g.after (tk := tk1) k1).int _ _)))
  | _ => exact .none
/-- a joined value stands for the one taken -/
theorem join_ok {c : Bool} {a b : PV} : Ok (joinPV c a b) fun r => ∀ h v, Rep [] h (cond c a b) v → Rep [] h r v := by
  refine .alt (.with_ fun i _ => .with_ fun j _ => .some fun _ h v x => ?_) (.alt (.with_ fun i _ => .with_ fun j _ => .some fun _ h v x => ?_) (.alt (.with_ fun i _ => .with_ fun j _ => .some fun _ h v x => ?_) (.alt (.with_ fun i _ => .with_ fun j _ => .some fun _ h v x => ?_)
    (.with_ fun i _ => .with_ fun j _ => .some fun hc h v x => ?_))))
  all_goals cases c
  all_goals first | exact x.at j.2 | exact x.at i.2 | skip
  obtain ⟨l, vs, e, n, hl, hi⟩ := x.at j.2
  have hc : j.1 = [] := hc
  rw [hc] at hi
  cases hi
  exact ⟨l, [], e, n, hl, rfl⟩
theorem if_ok (hr : RecOk W lv rec) (ht : RecTOk W lv recT) {t a b pos} : Ok (ifPV (recT sc loc t) (rec sc loc a) (rec sc loc b)) fun p => Snd W lv sc loc (.IfExp t a b pos) p := by
  unfold ifPV
  refine .with_ fun x hx => .with_ fun y hy => .with_ fun z hz => .seq join_ok fun r hj => .some fun hc f env s Q E C g => ?_
  obtain ⟨c1, c2⟩ := Cond.and_use hc
  obtain ⟨c2, c3⟩ := Cond.and_use c2
  refine ifR (ht sc loc t x.1 x.2 hx c1 f env s _ E C fun h' tk k => ?_)
  cases hb : x.1 with
  | true =>
    refine hr sc loc a y.1 y.2 hy (Cond.imp_use c2 hb) f env _ _ E (C.stays k) fun v h2 tk2 k2 ra => g _ _ _ (stays_trans k k2) (hj _ _ ?_)
    rw [hb]; exact ra
  | false =>
    refine hr sc loc b z.1 z.2 hz (Cond.imp_use c3 hb) f env _ _ E (C.stays k) fun v h2 tk2 k2 ra => g _ _ _ (stays_trans k k2) (hj _ _ ?_)
    rw [hb]; exact ra
end
end Nt

set_option Elab.async false
set_option maxRecDepth 100000
set_option linter.all false
open PySem PySem.W PyProof.Rows PySem.Calls
namespace Nt
set_option genInjectivity false
set_option genSizeOf false

section
variable {W : Wd} {lv : Nat} {T : Tb} {sc : Sc} {loc : Loc} {f : Fm} {env : Env} {s : Shared} {Q E : Value → Shared → Prop} {rec : Rec} {recT : RecT}
/-- a row of expressions, one after the other -/
noncomputable def SndL (W : Wd) (lv : Nat) (sc : Sc) (loc : Loc) (es : List Expr) (ps : List PV) : Prop :=
  ∀ (f : Fm) (env : Env) (s : Shared) (pos : Pos) (Q : List Value → Shared → Prop) (E : Value → Shared → Prop), EnvOk W lv f sc loc env s →
    (∀ vs h' tk, s.heap.StaysIn h' → Reps [] h' ps vs → Q vs ⟨h', s.gens, s.drawn, tk, s.os⟩) → wpR (model W.prog W.w) f.A (spliced (backTo pos (starEach es env))) Q E s
theorem backTo_cons {pos : Pos} {x : Sem Value} {r : List (Bool × Sem Value)} : backTo pos ((false, x) :: r) = (false, x) :: backTo pos r := rfl
theorem star_plain {e : Expr} {es : List Expr} {env : Env} (h : isStar e = false) : starEach (e :: es) env = (false, eval e env) :: starEach es env := by
  cases e <;> first | rfl | cases h
theorem evs_ok (hr : RecOk W lv rec) : ∀ es, Ok (evs rec sc loc es) fun ps => SndL W lv sc loc es ps
  | [] => .some fun _ f env s pos Q E C g => wpR_pure (g [] _ _ (stays_refl _) rfl)
  | e :: es => .onlyIf fun hs => .seq (hr sc loc e) fun p hp => .seq (evs_ok hr es) fun ps hps => .some fun _ f env s pos Q E C g => by
    rw [star_plain (by simpa using hs), backTo_cons]
    exact splicedR_cons (hp f env s _ E C fun v h1 tk1 k1 r1 => hps f env _ pos _ E (C.stays k1) fun vs h2 tk2 k2 r2 => g _ _ _ (stays_trans k1 k2) ⟨v, vs, rfl, r1.stays k2, r2⟩)
theorem any_star : ∀ {es : List Expr} {env : Env} {pos : Pos}, es.all (fun e => !isStar e) = true → (backTo pos (starEach es env)).any (·.1) = false
  | [], _, _, _ => rfl
  | e :: es, env, pos, h => by
    rw [List.all_cons, Bool.and_eq_true] at h
    rw [star_plain (by simpa using h.1), backTo_cons, List.any_cons, any_star h.2]
    rfl
theorem evs_star : ∀ {es : List Expr} {r : List PV × Cond}, evs rec sc loc es = some r → es.all (fun e => !isStar e) = true
  | [], _, _ => rfl
  | e :: es, r, h => by
    replace h : onlyIf (!isStar e) (seq (rec sc loc e) fun p => seq (evs rec sc loc es) fun ps => some (p :: ps, none)) = some r := h
    obtain ⟨hs, h⟩ := onlyIf_use h
    obtain ⟨p, c, x, e1, h⟩ := seq_use h
    obtain ⟨ps, c2, x2, e2, h⟩ := seq_use h
    rw [List.all_cons, hs, Bool.true_and]
    exact evs_star e2

theorem ints_ok : ∀ ps, Ok (intsOf ps) fun l => ∀ h vs, Reps [] h ps vs → IntsAre vs l
  | [] => .some fun _ h vs e => by cases (show vs = [] from e); exact .nil
  | p :: ps => .with_ fun i _ => .seq (ints_ok ps) fun l hl => .some fun _ h vs e => by
    obtain ⟨v, r, rfl, e1, e2⟩ := e
    obtain ⟨t, rfl⟩ := e1.at i.2
    exact .cons _ _ (hl h r e2)
theorem byts_ok : ∀ ps, Ok (bytsOf ps) fun l => ∀ h vs, Reps [] h ps vs → BytesAre vs l
  | [] => .some fun _ h vs e => e
  | p :: ps => .with_ fun i _ => .seq (byts_ok ps) fun l hl => .some fun _ h vs e => by
    obtain ⟨v, r, rfl, e1, e2⟩ := e
    obtain ⟨t, rfl⟩ := e1.at i.2
    exact ⟨t, r, rfl, hl h r e2⟩
theorem list_ok (hr : RecOk W lv rec) {es pos} : Ok (seq (evs rec sc loc es) listPV) fun p => Snd W lv sc loc (.List es pos) p := by
  refine .seq (evs_ok hr es) fun ps hps => .alt (.seq (ints_ok ps) fun l hl => .some fun hc f env s Q E C g => ?_) (.seq (byts_ok ps) fun l hl => .some fun hc f env s Q E C g => ?_)
  · refine listR (hps f env s pos _ E C fun vs h1 tk1 k1 r1 => wpR_of (wpAny_newObj_type (g _ _ _ (stays_trans k1 (stays_push _ _)) ⟨_, vs, rfl, List.not_mem_nil, isList_new _ _, hl _ _ r1⟩) ?_))
    show vs.toArray.size ≤ sizeLine
    rw [List.size_toArray, (hl _ _ r1).length, sizeLine_eq]; exact hc
  · refine listR (hps f env s pos _ E C fun vs h1 tk1 k1 r1 => wpR_of (wpAny_newObj_type (g _ _ _ (stays_trans k1 (stays_push _ _)) ⟨_, vs, rfl, List.not_mem_nil, isList_new _ _, hl _ _ r1⟩) ?_))
    show vs.toArray.size ≤ sizeLine
    rw [List.size_toArray, (hl _ _ r1).length, sizeLine_eq]; exact hc
theorem tup_ok (hr : RecOk W lv rec) {es k pos} : Ok (seq (evs rec sc loc es) tupPV) fun p => Snd W lv sc loc (.Tuple es k pos) p := by
  refine .seq (evs_ok hr es) fun ps hps => ?_
  rcases ps with _ | ⟨_, _ | ⟨_, _ | ⟨_, _ | _⟩⟩⟩
  · exact .none
  · exact .none
  · refine .some fun hc f env s Q E C g => tupR (hps f env s pos _ E C fun vs h1 tk1 k1 r1 => ?_)
    obtain ⟨v, r, rfl, e1, u, r', rfl, e2, e3⟩ := r1
    cases (show r' = [] from e3)
    exact wpR_of (wpAny_newObj_type (g _ _ _ (stays_trans k1 (stays_push _ _)) ⟨_, v, u, rfl, List.not_mem_nil, isTup_new _ _, e1.stays (stays_push _ _), e2.stays (stays_push _ _)⟩) (by show 2 ≤ sizeLine; rw [sizeLine_eq]; decide))
  · refine .some fun hc f env s Q E C g => tupR (hps f env s pos _ E C fun vs h1 tk1 k1 r1 => ?_)
    obtain ⟨v, r, rfl, e1, u, r', rfl, e2, x, r'', rfl, e3, e4⟩ := r1
    cases (show r'' = [] from e4)
    exact wpR_of (wpAny_newObj_type (g _ _ _ (stays_trans k1 (stays_push _ _)) ⟨_, v, u, x, rfl, List.not_mem_nil, isTup_new _ _, e1.stays (stays_push _ _), e2.stays (stays_push _ _), e3.stays (stays_push _ _)⟩) (by show 3 ≤ sizeLine; rw [sizeLine_eq]; decide))
  · exact .none

/-- an item, over values -/
theorem bytes_get {l : List (List UInt8)} : ∀ {vs : List Value} {i : Nat}, BytesAre vs l → i < l.length → ∃ t, vs[i]? = some (.bytes (l.getD i []).toArray t) := by
  induction l with
  | nil => intro vs i h e; exact absurd e (Nat.not_lt_zero _)
  | cons b bs ih =>
    rintro vs i ⟨t, r, rfl, h⟩ e
    cases i with
    | zero => exact ⟨t, rfl⟩
    | succ j => exact ih h (Nat.lt_of_succ_lt_succ e)
theorem ints_get {vs : List Value} {l : List Int} (h : IntsAre vs l) : ∀ {i : Nat}, i < l.length → ∃ t, vs[i]? = some (.int (l.getD i 0) t) := by
  induction h with
  | nil => intro i e; exact absurd e (Nat.not_lt_zero _)
  | cons n t _ ih =>
    intro i e
    cases i with
    | zero => exact ⟨t, rfl⟩
    | succ j => exact ih (Nat.lt_of_succ_lt_succ e)
theorem item_ok {prog : Program} {w : World} {A : Around} {v e : Expr} {o i : PV} {x y : Value} (hs : isSlice e = false) (ho : Rep [] s.heap o x) (hi : Rep [] s.heap i y) :
    Ok (itemPV e o i) fun r => Gv s r Q → wpAny (model prog w) A (subscriptTail v e x y) Q E s := by
  refine .with_ fun j _ => ?_
  obtain ⟨u, rfl⟩ := hi.at j.2
  refine .alt (.with_ fun b _ => .some fun hc g => ?_) (.alt (.with_ fun b _ => .some fun hc g => ?_) (.alt (.with_ fun b _ => .some fun hc g => ?_) (.with_ fun b _ => ?_)))
  · obtain ⟨t, rfl⟩ := ho.at b.2
    exact itemB hs hc.1 hc.2.1 hc.2.2 fun t' k => g.int t' k
  · obtain ⟨a, vs, rfl, _, hl, hb⟩ := ho.at b.2
    obtain ⟨t, e⟩ := bytes_get (i := j.1.toNat) hb (by have := hc.1; have := hc.2.1; lia)
    exact itemL hs hl hc.1 e (by have := hc.2.1; have := hc.2.2; lia) (g.bytes t s.toks)
  · obtain ⟨a, vs, rfl, _, hl, hb⟩ := ho.at b.2
    obtain ⟨t, e⟩ := ints_get hb (i := j.1.toNat) (by have := hc.1; have := hc.2.1; lia)
    exact itemL hs hl hc.1 e (by have := hc.2.1; have := hc.2.2; lia) (g.int t s.toks)
  · obtain ⟨a, v0, v1, rfl, _, ht, r0, r1⟩ := ho.at b.2
    have at0 : ∀ r, j.1 = 0 → (∀ r', Rep [] s.heap r' v0 → r = r' → True) → Q v0 ⟨s.heap, s.gens, s.drawn, s.toks, s.os⟩ → wpAny (model prog w) A (subscriptTail v e (.ref a) (.int j.1 u)) Q E s := fun r hj _ q =>
      itemT hs (vs := [v0, v1]) ht (by lia) (by rw [hj]; rfl) (by lia) q
    have at1 : j.1 = 1 → Q v1 ⟨s.heap, s.gens, s.drawn, s.toks, s.os⟩ → wpAny (model prog w) A (subscriptTail v e (.ref a) (.int j.1 u)) Q E s := fun hj q =>
      itemT hs (vs := [v0, v1]) ht (by lia) (by rw [hj]; rfl) (by lia) q
    have at0 : j.1 = 0 → Q v0 ⟨s.heap, s.gens, s.drawn, s.toks, s.os⟩ → wpAny (model prog w) A (subscriptTail v e (.ref a) (.int j.1 u)) Q E s := fun hj q =>
      itemT hs (vs := [v0, v1]) ht (by lia) (by rw [hj]; rfl) (by lia) q
    refine .alt (.onlyIf fun _ => .some fun hc g => ?_) (.alt (.onlyIf fun _ => .some fun hc g => ?_) (.seq join_ok fun r hj => .some fun hc g => ?_))
    · exact at0 hc (g.self r0 _)
    · exact at1 hc (g.self r1 _)
    · rcases (hc : j.1 = 0 ∨ j.1 = 1) with h | h
      · exact at0 h (g.self (hj _ _ (by rw [h]; exact r0)) _)
      · exact at1 h (g.self (hj _ _ (by rw [h]; exact r1)) _)

noncomputable def SndP (W : Wd) (lv : Nat) (sc : Sc) (loc : Loc) (e : Option Expr) (p : Option Int) : Prop :=
  ∀ (f : Fm) (env : Env) (s : Shared) (Q E : Value → Shared → Prop), EnvOk W lv f sc loc env s → (∀ v h' tk, s.heap.StaysIn h' → IsPart v p → Q v ⟨h', s.gens, s.drawn, tk, s.os⟩) → wpR (model W.prog W.w) f.A (evalPart e env) Q E s
theorem part_ok (hr : RecOk W lv rec) : ∀ e, Ok (partPV rec sc loc e) fun p => SndP W lv sc loc e p
  | none => .some fun _ f env s Q E C g => wpR_pure (g _ _ _ (stays_refl _) .none)
  | some e => .seq (hr sc loc e) fun p hp => .with_ fun i _ => .some fun _ f env s Q E C g => hp f env s _ E C fun v h1 tk1 k1 r1 => by
    obtain ⟨t, rfl⟩ := r1.at i.2
    exact g _ _ _ k1 (.int _ _)
theorem cut_ok {prog : Program} {w : World} {A : Around} {v : Expr} {lw up : Option Expr} {p : Pos} {o : PV} {x l u : Value} {lo hi : Option Int} (ho : Rep [] s.heap o x) (hl : IsPart l lo) (hu : IsPart u hi) :
    Ok (cutPV o lo hi) fun r => Gv s r Q → wpAny (model prog w) A (subscriptTail v (.Slice lw up none p) x (.ref s.heap.objs.size)) Q E { s with heap := s.heap.push { cls := .type "slice", data := .fields #[l, u, .none] } } := by
  refine .alt (.with_ fun b _ => .some fun hc g => ?_) (.alt (.with_ fun b _ => .some fun hc g => ?_) (.alt (.with_ fun b _ => .some fun hc g => ?_) (.with_ fun b _ => ?_)))
  · obtain ⟨t, rfl⟩ := ho.at b.2
    exact cutB hl hu hc fun t' k => g _ _ _ (stays_push _ _) ⟨t', rfl⟩
  · obtain ⟨a, vs, rfl, _, ha, hb⟩ := ho.at b.2
    exact cutL ha hl hu (by rw [hb.length]; exact hc) fun h' D k r => g _ _ _ k ⟨D, _, rfl, List.not_mem_nil, r, cut_bytes hb _ _⟩
  · obtain ⟨a, vs, rfl, _, ha, hb⟩ := ho.at b.2
    exact cutL ha hl hu (by rw [hb.length]; exact hc) fun h' D k r => g _ _ _ k ⟨D, _, rfl, List.not_mem_nil, r, cut_ints hb _ _⟩
  · obtain ⟨a, rfl, _, ha⟩ := ho.at b.2
    cases lo with
    | none =>
      cases hi with
      | none => exact .none
      | some n =>
        refine .some fun hc g => ?_
        cases hl
        cases hu
        exact cutBa ha hc fun h' k D e => g _ _ _ k ⟨D, rfl, List.not_mem_nil, e⟩
    | some l => exact .none
theorem sub_ok (hr : RecOk W lv rec) {v pos} : ∀ i, Ok (evSub rec sc loc v i) fun p => Snd W lv sc loc (.Subscript v i pos) p := by
  intro i
  by_cases hs : isSlice i = false
  · have he : evSub rec sc loc v i = onlyIf (!isSlice i) (seq (rec sc loc v) fun o => seq (rec sc loc i) fun j => itemPV i o j) := by
      cases i with
      | Slice => cases hs
      | _ => rfl
    rw [he]
    clear he
    refine .onlyIf fun _ => .seq (hr sc loc v) fun o ho => .seq (hr sc loc i) fun j hj => fun r c e hc f env s Q E C g => ?_
    refine subR (ho f env s _ E C fun vo h1 tk1 k1 r1 => hj f env _ _ E (C.stays k1) fun vj h2 tk2 k2 r2 => wpR_of ?_)
    exact item_ok (s := ⟨h2, s.gens, s.drawn, tk2, s.os⟩) hs (r1.stays k2) r2 r c e hc (g.after (stays_trans k1 k2))
  cases i with
  | Slice lo hi st p =>
    clear hs
    cases st with
    | none =>
      refine .seq (hr sc loc v) fun o ho => .seq (part_ok hr lo) fun l hl => .seq (part_ok hr hi) fun h hh => fun r c e hc f env s Q E C g => ?_
      refine subR (ho f env s _ E C fun vo h1 tk1 k1 r1 => sliceR (hl f env _ _ E (C.stays k1) fun vl h2 tk2 k2 r2 => hh f env _ _ E ((C.stays k1).stays (tk := tk2) k2) fun vh h3 tk3 k3 r3 => wpR_pure (wpR_of ?_)))
      exact cut_ok (s := ⟨h3, s.gens, s.drawn, tk3, s.os⟩) (r1.stays (stays_trans k2 k3)) r2 r3 r c e hc (g.after (stays_trans k1 (stays_trans k2 k3)))
    | some st =>
      cases lo with
      | some => exact .none
      | none =>
      cases hi with
      | some => exact .none
      | none =>
      refine .seq (hr sc loc v) fun o ho => .seq (hr sc loc st) fun l hl => .with_ fun b _ => .with_ fun i _ => .some fun hc f env s Q E C g => ?_
      refine subR (ho f env s _ E C fun vo h1 tk1 k1 r1 => sliceR (wpR_pure (wpR_pure (hl f env _ _ E (C.stays k1) fun vl h2 tk2 k2 r2 => wpR_of ?_))))
      obtain ⟨a, vs, rfl, _, ha, hb⟩ := (r1.stays k2).at b.2
      obtain ⟨t, rfl⟩ := r2.at i.2
      rw [hc.1]
      exact revL (s := ⟨h2, s.gens, s.drawn, tk2, s.os⟩) ha (.int _ _) (by rw [hb.length]; exact hc.2) fun h' D k r => g _ _ _ (stays_trans k1 (stays_trans k2 k)) ⟨D, _, rfl, List.not_mem_nil, r, hb.reverse⟩
  | _ => exact absurd rfl hs
end
end Nt

set_option Elab.async false
set_option maxRecDepth 100000
set_option linter.all false
open PySem PySem.W PyProof.Rows PySem.Calls
namespace Nt
set_option genInjectivity false
set_option genSizeOf false

section
variable {W : Wd} {lv : Nat} {T : Tb} {sc : Sc} {loc : Loc} {f : Fm} {env : Env} {s : Shared} {Q E : Value → Shared → Prop} {rec : Rec} {recT : RecT}

theorem base_plain {o : Expr} {x : Str} {env : Env} {whole : Sem Value} (h : bareCall o = false) : attributeBase o x env whole = whole := by
  cases o with
  | Call fn as ks pos =>
    cases fn with
    | Name y p =>
      cases as with
      | nil =>
        cases ks with
        | nil => cases h
        | cons => rfl
      | cons => rfl
    | _ => rfl
  | _ => rfl
theorem few_ok : ∀ {es : List Expr} {env : Env} {pos : Pos}, es.all (fun e => !isStar e) = true → es.length < 30 → methodCallForm (es.length + 0) (backTo pos (starEach es env)) [] = true := by
  intro es env pos h hl
  have e1 : (backTo pos (starEach es env)).all (fun x => !x.1) = true := by
    have := any_star (env := env) (pos := pos) h
    rw [List.all_eq_not_any_not]
    simpa using this
  unfold methodCallForm
  rw [e1]
  simpa using hl
theorem meth_eq {o : Expr} {x : Str} {apos pos : Pos} {as : List Expr} (h : bareCall o = false) (hp : apos.endLine = pos.line) (hs : as.all (fun e => !isStar e) = true) (hl : as.length < 30) :
    ∃ pl, eval (.Call (.Attribute o x apos) as [] pos) env = (do
      let ov ← eval o env
      standAt apos.atName
      let (f, first) ← holding [ov] (getMethod ov x pl)
      callWith pos f first (backTo pos (starEach as env)) []) := by
  refine ⟨do return (← importBound o env).getD true, ?_⟩
  rw [arm_eval_Call, base_plain h]
  show (do
    let ov ← eval o env
    standAt apos.atName
    methodCall o x apos pos env ov (as.length + 0) (backTo pos (starEach as env)) []) = _
  unfold methodCall calleeOf methodCallPos
  rw [few_ok hs hl]
  have e : (!true || apos.endLine == pos.line) = true := by simp [hp]
  rw [e]
  rfl
theorem seq_some {α β : Type} {o : Option (α × Cond)} {k : α → Option (β × Cond)} {r : β × Cond} (h : seq o k = some r) : ∃ a c, o = some (a, c) := by
  unfold seq at h
  split at h
  · exact ⟨_, _, rfl⟩
  · cases h
theorem call_ok (hT : TbOk W lv T) (hr : RecOk W lv rec) {as pos} : ∀ fn, Ok (evCall T rec sc loc as pos fn) fun p => Snd W lv sc loc (.Call fn as [] pos) p := by
  intro fn
  cases fn with
  | Name x p =>
    refine .with_ fun sp hsp => ?_
    obtain ⟨fv, hk, hco, hev⟩ := callee_ok (pos := p) hT hsp
    intro r c e hc
    obtain ⟨ps₀, c₀, e₀⟩ := seq_some e
    have hst := evs_star e₀
    refine Ok.seq (evs_ok hr as) (k' := fun r => Snd W lv sc loc (.Call (.Name x p) as [] pos) r) (fun ps hps => fun r c e hc f env s Q E C g => ?_) r c e hc
    refine callNameR (hev f env s _ E C (callWithR (P := fun h => W.K.In h) (any_star hst) hk (hps f env s pos _ E C fun vs h1 tk1 k1 r1 => ⟨(C.stays (tk := tk1) k1).heapK, ?_⟩)))
    exact hco f _ ps vs Q E C.ok (C.stays (tk := tk1) k1).fr r1 r c e hc (g.after k1)
  | Attribute o x apos =>
    refine .onlyIf fun hb => ?_
    rw [Bool.and_eq_true, Bool.and_eq_true] at hb
    obtain ⟨⟨hb1, hb2⟩, hb3⟩ := hb
    refine .seq (hr sc loc o) fun po ho => ?_
    intro r c e hc
    obtain ⟨ps₀, c₀, e₀⟩ := seq_some e
    have hst := evs_star e₀
    refine Ok.seq (evs_ok hr as) (k' := fun r => Snd W lv sc loc (.Call (.Attribute o x apos) as [] pos) r) (fun ps hps => fun r c e hc f env s Q E C g => ?_) r c e hc
    obtain ⟨pl, heq⟩ := meth_eq (env := env) (o := o) (x := x) (by simpa using hb1) (by simpa using hb2) hst (Nat.le_of_ble_eq_true hb3)
    refine methodR (pl := pl) (ho f env s _ E C fun v h1 tk1 k1 r1 => ?_) heq
    have C1 := C.stays (tk := tk1) k1
    refine hT.m x po ps r c e hc f _ v pl _ E C.ok C1.fr r1 fun fx hfx hcall => ?_
    refine callWithR (P := fun h => W.K.In h) (any_star hst) hfx (hps f env _ pos _ E C1 fun vs h2 tk2 k2 r2 => ⟨(C1.stays (tk := tk2) k2).heapK, ?_⟩)
    exact hcall _ vs Q E (C1.stays (tk := tk2) k2).fr k2 r2 (g.after (stays_trans k1 k2))
  | _ => exact .none

/-- comprehensions -/
theorem set_plain {it : Expr} {env : Env} {x : Value} (h : isSet it = false) : foldedSetIterable it env x = pure x := by
  cases it with
  | Set => cases h
  | _ => rfl
theorem rps_ints {F : PV → Int} : ∀ {qs : List PV} {vs : List Value}, Rps (qs.map fun q => .int (F q)) vs → IntsAre vs (qs.map F)
  | [], _, rfl => .nil
  | q :: qs, _, ⟨v, r, rfl, e, h⟩ => by
    obtain ⟨t, rfl⟩ := e [] default
    exact .cons _ _ (rps_ints h)
theorem rps_strs {F : PV → Str} : ∀ {qs : List PV} {vs : List Value}, Rps (qs.map fun q => .str (F q)) vs → StrsAre vs (qs.map F)
  | [], _, rfl => .nil
  | q :: qs, _, ⟨v, r, rfl, e, h⟩ => by
    obtain ⟨t, rfl⟩ := e [] default
    exact .cons _ _ (rps_strs h)
theorem rps_byts {F : PV → List UInt8} : ∀ {qs : List PV} {vs : List Value}, Rps (qs.map fun q => .bytes (F q)) vs → BytesAre vs (qs.map F)
  | [], _, rfl => rfl
  | q :: qs, _, ⟨v, r, rfl, e, h⟩ => by
    obtain ⟨t, rfl⟩ := e [] default
    exact ⟨t, r, rfl, rps_byts h⟩
theorem relabel_other {env : Env} : ∀ {names : List (Str × NameKind)} {x : Str} {k : NameKind}, k ≠ .free → names.lookup x = some k →
    (names.map fun (n, k) => if (k == NameKind.free && env.scope.kind == .function && env.kindOf n == some .cell) then (n, NameKind.cell) else (n, k)).lookup x = some k
  | [], _, _, _, h => by simp at h
  | (n, k') :: r, x, k, hk, h => by
    have ih := @relabel_other env r x k hk
    show List.lookup x ((if (k' == NameKind.free && env.scope.kind == .function && env.kindOf n == some .cell) = true then (n, NameKind.cell) else (n, k')) :: _) = _
    cases hx : x == n with
    | true =>
      simp only [List.lookup_cons, hx] at h
      cases h
      have e : (k' == NameKind.free) = false := by cases k' <;> first | rfl | exact absurd rfl hk
      simp [List.lookup_cons, hx, e]
    | false =>
      simp only [List.lookup_cons, hx] at h
      by_cases hc : (k' == NameKind.free && env.scope.kind == .function && env.kindOf n == some .cell) = true
      · rw [if_pos hc]; simp only [List.lookup_cons, hx]; exact ih h
      · rw [if_neg hc]; simp only [List.lookup_cons, hx]; exact ih h
theorem closure_none {scope : Scope} {env : Env} (h : ∀ y ∈ scope.names, y.2 ≠ .free) : closureFor scope env = pure [] := by
  unfold closureFor
  have key : ∀ (l : List (Str × NameKind)) (cs : List (Str × Addr)), (∀ y ∈ l, y.2 ≠ .free) → (forIn l cs fun y r => (do
      if (y.2 == NameKind.free) = true then do let a ← cellOf env y.1; pure (ForInStep.yield ((y.1, a) :: r)) else pure (ForInStep.yield r) : Sem (ForInStep (List (Str × Addr))))) = pure cs := by
    intro l
    induction l with
    | nil => intro cs _; rfl
    | cons y l ih =>
      intro cs hl
      rw [List.forIn_cons]
      have e : (y.2 == NameKind.free) = false := by
        have := hl y (List.mem_cons_self ..)
        cases hy : y.2 <;> first | rfl | exact absurd hy this
      rw [e]
      exact ih cs fun z hz => hl z (List.mem_cons_of_mem _ hz)
  have := key scope.names [] h
  exact congrArg (fun t => t >>= fun cs => (pure cs : Sem (List (Str × Addr)))) this
/-- what a comprehension's environment stands on -/
theorem EnvOk.comp {sc' : Sc} {scope : Scope} {cl : List (Str × Addr)} {C : Addr} {x : Str} {q : PV} {v : Value} {m : Str → Option Value} {s₃ : Shared} (c : EnvOk W lv f sc loc env s) (hk : scope.kind = .function)
    (hn : sc'.names = scope.names) (hx : scope.names.lookup x = some .local)
    (hce : ∀ x p, sc'.cel.lookup x = some p → ((compEnvC scope cl C env).kindOf x = some .cell ∨ (compEnvC scope cl C env).kindOf x = some .free) ∧ ∃ a v, cl.lookup x = some a ∧ s.heap.IsCell a (some v) ∧ Rep [] s.heap p v)
    (hs : s.heap.StaysIn s₃.heap) (hm : s₃.heap.Ns C m) (hv : m x = some v) (hr : Rp q v) : EnvOk W lv f sc' [(x, q)] (compEnvC scope cl C env) s₃ where
  lo := fun y h => relabel_other (by intro e; cases e) (hn ▸ h)
  gl := fun y h => relabel_other (by intro e; cases e) (hn ▸ h)
  ce := fun y p h => let ⟨a, b, u, e1, e2, e3⟩ := hce y p h; ⟨a, b, u, e1, cell_stays hs e2, e3.stays hs⟩
  k := hk
  eg := c.eg
  eb := c.eb
  ok := c.ok
  fr := c.fr.elim fun m F => ⟨m, F.keeps hs⟩
  ns := ⟨m, hm, fun y p h => by
    rw [List.lookup_cons] at h
    by_cases h1 : y = x
    · subst h1
      rw [beq_self_eq_true] at h
      cases h
      exact ⟨v, hv, hr _ _⟩
    · rw [beq_eq_false_iff_ne.mpr h1] at h
      cases h⟩
theorem tests_ok (hT : RecTOk W lv recT) {sc' : Sc} {x : Str} {ifs : List Expr} {q : PV} (h : met (turnT recT sc' x ifs q)) {f : Fm} {cenv : Env} {s : Shared} {Q : Bool → Shared → Prop} {E : Value → Shared → Prop} (C : EnvOk W lv f sc' [(x, q)] cenv s)
    (g : ∀ h' tk, s.heap.StaysIn h' → Q (bit (turnT recT sc' x ifs q)) ⟨h', s.gens, s.drawn, tk, s.os⟩) :
    wpR (model W.prog W.w) f.A (forIn ifs true fun c r => if r = true then do let ok ← isTrue c cenv (eval c cenv); pure (ForInStep.yield ok) else pure (ForInStep.yield r)) Q E s := by
  rcases ifs with _ | ⟨c, _ | _⟩
  · exact wpR_pure (g _ _ (stays_refl _))
  · obtain ⟨b, d, e, hd⟩ := met_use (show met (recT sc' [(x, q)] c) from h)
    have g : ∀ h' tk, s.heap.StaysIn h' → Q (bit (recT sc' [(x, q)] c)) ⟨h', s.gens, s.drawn, tk, s.os⟩ := g
    rw [e] at g
    rw [List.forIn_cons]
    refine wpR_bind ?_
    simp only [if_true]
    exact wpR_bind (hT sc' _ c b d e hd f cenv s _ E C fun h' tk k => wpR_pure (wpR_pure (g h' tk k)))
  · exact (show False from h).elim
theorem own_use {scope : Scope} {x : Str} (h : ownScope scope x = true) : (∀ y ∈ scope.names, y.2 ≠ .free) ∧ (∀ y ∈ scope.names, y.2 ≠ .cell) ∧ (∀ y ∈ scope.names, y.2 = .local → scope.names.lookup y.1 = some .local) ∧ scope.kind = .function ∧ scope.names.lookup x = some .local := by
  unfold ownScope at h
  rw [Bool.and_eq_true, Bool.and_eq_true, List.all_eq_true] at h
  refine cps fun Z fin => ?_
  obtain ⟨⟨h1, h2⟩, h3⟩ := h
  refine fin ?_
  refine ⟨fun y hy e => ?_, fun y hy e => ?_, fun y hy e => ?_, ?_, eq_of_beq h3⟩
  · have := h1 y hy; rw [e] at this; cases this
  · have := h1 y hy; rw [e] at this; cases this
  · have := h1 y hy; rw [e] at this; exact eq_of_beq this
  · cases hk : scope.kind <;> first | rfl | (rw [hk] at h2; cases h2)
/-- a list comprehension, wherever its answer goes -/
theorem comp_core (hr : RecOk W lv rec) (hT : RecTOk W lv recT) {elt it : Expr} {ifs : List Expr} {scope : Scope} {pos : Pos} {x : Str} {px : Pos} {cel' : Loc} (hs1 : isSet it = false) (o2 : ∀ y ∈ scope.names, y.2 ≠ .cell) (o3 : ∀ y ∈ scope.names, y.2 = .local → scope.names.lookup y.1 = some .local) (o4 : scope.kind = .function) (o5 : scope.names.lookup x = some .local)
    (hcel : ∀ (f : Fm) (env : Env) (s : Shared), EnvOk W lv f sc loc env s → ∃ cl, closureFor scope env = pure cl ∧ ∀ C y p, cel'.lookup y = some p → ((compEnvC scope cl C env).kindOf y = some .cell ∨ (compEnvC scope cl C env).kindOf y = some .free) ∧ ∃ a v, cl.lookup y = some a ∧ s.heap.IsCell a (some v) ∧ Rep [] s.heap p v) :
    Ok (seq (rec sc loc it) fun o => compPV rec recT ⟨scope.names, cel'⟩ x ifs elt o) fun p =>
    ∀ (f : Fm) (env : Env) (s : Shared) (use : Option (Value → Sem Unit)) (Q E : Value → Shared → Prop), EnvOk W lv f sc loc env s →
      (∀ D C h' tk m, s.heap.get? C = none → s.heap.get? D = none → D ≠ C → s.heap.StaysIn h' → Rep [C] h' p (.ref D) → Bare h' D → h'.Ns C m → compPostR (model W.prog W.w) f.A E use Q (.ref D) C (.ok .next) ⟨h', s.gens, s.drawn, tk, s.os⟩) →
      wpR (model W.prog W.w) f.A (comprehension (.ListComp elt [⟨.Name x px, it, ifs, 0⟩] scope pos) scope env (firstIterPos [⟨.Name x px, it, ifs, 0⟩] pos) (newList []) (firstAsync [⟨.Name x px, it, ifs, 0⟩]) (firstIter [⟨.Name x px, it, ifs, 0⟩] env) use) Q E s := by
  refine .seq (hr sc loc it) fun o ho => ?_
  have key : ∀ (F : PV → PV) (p : PV) (qd : List PV × PV) (mt : Option (PV × Cond) → Prop),
      (∀ H h D vs, D ∉ H → h.IsList D (List.toArray vs) → Rps ((qd.1.filter fun p => bit (turnT recT ⟨scope.names, cel'⟩ x ifs p)).map F) vs → Rep H h p (.ref D)) →
      (∀ q, mt (rec ⟨scope.names, cel'⟩ [(x, q)] elt) → ∃ c, rec ⟨scope.names, cel'⟩ [(x, q)] elt = some (F q, c) ∧ c.holds ∧ (F q).imm = true) →
      (qd.1.length ≤ 16777216 ∧ ∀ p ∈ qd.1, met (turnT recT ⟨scope.names, cel'⟩ x ifs p) ∧ (bit (turnT recT ⟨scope.names, cel'⟩ x ifs p) = true → mt (rec ⟨scope.names, cel'⟩ [(x, p)] elt))) →
      (∀ (f : Fm) (v : Value) (s : Shared), f.A.handled = none → Rep [] s.heap o v → Iter W.prog W.w f.A v s qd.1) →
      ∀ (f : Fm) (env : Env) (s : Shared) (use : Option (Value → Sem Unit)) (Q E : Value → Shared → Prop), EnvOk W lv f sc loc env s →
      (∀ D C h' tk m, s.heap.get? C = none → s.heap.get? D = none → D ≠ C → s.heap.StaysIn h' → Rep [C] h' p (.ref D) → Bare h' D → h'.Ns C m → compPostR (model W.prog W.w) f.A E use Q (.ref D) C (.ok .next) ⟨h', s.gens, s.drawn, tk, s.os⟩) →
      wpR (model W.prog W.w) f.A (comprehension (.ListComp elt [⟨.Name x px, it, ifs, 0⟩] scope pos) scope env it.pos (newList []) false (eval it env) use) Q E s := by
    intro F p qd mt hp hm hc hi f env s use Q E C g
    obtain ⟨cl, hcl, hce⟩ := hcel f env s C
    refine listCompR (fun _ => set_plain hs1) hcl o2 o4 o3 o5 (ho f env s _ E C fun v h1 tk1 k1 r1 => ?_)
    have C1 := C.stays (tk := tk1) k1
    refine ⟨qd.1, fun p => bit (turnT recT ⟨scope.names, cel'⟩ x ifs p), F, hi f v _ rfl r1, by rw [sizeLine_eq]; exact hc.1, ⟨?_, ?_⟩, ?_⟩
    · intro C' m q v s₃ Q' hq hk₃ hC hm₃ hv hrq g'
      exact tests_ok hT (hc.2 q hq).1 (C1.comp (sc' := ⟨scope.names, cel'⟩) o4 rfl o5 (fun y p e => let ⟨a, b, w, e1, e2, e3⟩ := hce C' y p e; ⟨a, b, w, e1, cell_stays k1 e2, e3.stays k1⟩) hk₃ hm₃ hv hrq) g'
    · intro C' m q v s₃ Q' hq hpq hk₃ hC hm₃ hv hrq g'
      obtain ⟨c, e, hc', hi'⟩ := hm q ((hc.2 q hq).2 hpq)
      exact hr _ _ elt _ c e hc' f _ s₃ Q' _ (C1.comp (sc' := ⟨scope.names, cel'⟩) o4 rfl o5 (fun y p e => let ⟨a, b, w, e1, e2, e3⟩ := hce C' y p e; ⟨a, b, w, e1, cell_stays k1 e2, e3.stays k1⟩) hk₃ hm₃ hv hrq) fun y h' tk k r => g' y h' tk k (Rp.of hi' r)
    · intro D C' h' tk m ys hC hD hDC hk' hl hF hn
      have up : ∀ a, h1.get? a = none → s.heap.get? a = none := fun a e => by
        cases e' : s.heap.get? a with
        | none => rfl
        | some ob => rw [k1 a ob e'] at e; cases e
      exact g D C' h' tk m (up _ hC) (up _ hD) hDC (stays_trans k1 hk') (hp _ _ _ _ (fun q => hDC (List.mem_singleton.mp q)) hl.isList hF) (let ⟨n, e⟩ := hl; ⟨_, e, rfl, rfl⟩) hn
  unfold compPV
  refine .seq (o := srcPV o) (k := fun q => ∀ (f : Fm) (v : Value) (s : Shared), f.A.handled = none → Rep [] s.heap o v → Iter W.prog W.w f.A v s q.1) (fun q c e hc f v s hh hr => iter_ok hh hr q c e hc) (fun q hq => ?_)
  refine .with_ fun d hd => .alt (.with_ fun _ _ => .some fun hc => ?_) (.alt (.with_ fun _ _ => .some fun hc => ?_) (.with_ fun _ _ => .some fun hc => ?_))
  · refine key (fun p => .int (asInt (rec ⟨scope.names, cel'⟩ [(x, p)] elt))) _ q metI (fun H h D vs hn hl hR => ⟨D, vs, rfl, hn, hl, rps_ints hR⟩) (fun q hm => ?_) hc hq
    obtain ⟨a, c, e, hc⟩ := met_use hm
    cases h1 : rec ⟨scope.names, cel'⟩ [(x, q)] elt with
    | none => rw [h1] at e; cases e
    | some b =>
      rw [h1] at e
      obtain ⟨b1, b2⟩ := b
      cases b1 <;> first | cases e | skip
      exact ⟨_, rfl, hc, rfl⟩
  · refine key (fun p => .str (asStr (rec ⟨scope.names, cel'⟩ [(x, p)] elt))) _ q metS (fun H h D vs hn hl hR => ⟨D, vs, rfl, hn, hl, rps_strs hR⟩) (fun q hm => ?_) hc hq
    obtain ⟨a, c, e, hc⟩ := met_use hm
    cases h1 : rec ⟨scope.names, cel'⟩ [(x, q)] elt with
    | none => rw [h1] at e; cases e
    | some b =>
      rw [h1] at e
      obtain ⟨b1, b2⟩ := b
      cases b1 <;> first | cases e | skip
      exact ⟨_, rfl, hc, rfl⟩
  · refine key (fun p => .bytes (asByt (rec ⟨scope.names, cel'⟩ [(x, p)] elt))) _ q metB (fun H h D vs hn hl hR => ⟨D, vs, rfl, hn, hl, rps_byts hR⟩) (fun q hm => ?_) hc hq
    obtain ⟨a, c, e, hc⟩ := met_use hm
    cases h1 : rec ⟨scope.names, cel'⟩ [(x, q)] elt with
    | none => rw [h1] at e; cases e
    | some b =>
      rw [h1] at e
      obtain ⟨b1, b2⟩ := b
      cases b1 <;> first | cases e | skip
      exact ⟨_, rfl, hc, rfl⟩
theorem closure_cells {scope : Scope} {cel : Loc} {env : Env} (h : ∀ y ∈ scope.names, y.2 = .free → ∃ a, env.cells.lookup y.1 = some a) : ∃ cl, closureFor scope env = pure cl ∧ ∀ y, scope.names.lookup y = some .free → cl.lookup y = env.cells.lookup y := by
  have key : ∀ (l : List (Str × NameKind)) (cs : List (Str × Addr)), (∀ y ∈ l, y.2 = .free → ∃ a, env.cells.lookup y.1 = some a) → (∀ y a, cs.lookup y = some a → env.cells.lookup y = some a) → ∃ cl, (forIn l cs fun y r => (do
      if (y.2 == NameKind.free) = true then do let a ← cellOf env y.1; pure (ForInStep.yield ((y.1, a) :: r)) else pure (ForInStep.yield r) : Sem (ForInStep (List (Str × Addr))))) = pure cl ∧ (∀ y a, cl.lookup y = some a → env.cells.lookup y = some a) ∧
      (∀ y, (cs.lookup y).isSome = true → (cl.lookup y).isSome = true) ∧ ∀ y ∈ l, y.2 = .free → (cl.lookup y.1).isSome = true := by
    intro l
    induction l with
    | nil => intro cs _ hc; exact ⟨cs, rfl, hc, fun _ h => h, fun _ h => nomatch h⟩
    | cons y l ih =>
      intro cs hl hc
      rw [List.forIn_cons]
      by_cases hy : y.2 = .free
      · obtain ⟨a, ha⟩ := hl y (.head _) hy
        have e : (y.2 == NameKind.free) = true := by rw [hy]; rfl
        rw [e]
        have hcell : cellOf env y.1 = pure a := by unfold cellOf; rw [ha]
        simp only [if_true, hcell, pure_bind]
        obtain ⟨cl, h1, h2, h3, h4⟩ := ih ((y.1, a) :: cs) (fun z hz => hl z (.tail _ hz)) (fun z b hb => by
          rw [List.lookup_cons] at hb
          by_cases q : z = y.1
          · subst q; rw [beq_self_eq_true] at hb; cases hb; exact ha
          · rw [beq_eq_false_iff_ne.mpr q] at hb; exact hc z b hb)
        refine ⟨cl, h1, h2, fun z hz => h3 z ?_, fun z hz hf => ?_⟩
        · rw [List.lookup_cons]
          split
          · rfl
          · exact hz
        · rcases List.mem_cons.mp hz with rfl | hz
          · exact h3 _ (by rw [List.lookup_cons, beq_self_eq_true]; rfl)
          · exact h4 z hz hf
      · have e : (y.2 == NameKind.free) = false := by cases h : y.2 <;> first | rfl | exact absurd h hy
        rw [e]
        simp only [Bool.false_eq_true, if_false, pure_bind]
        obtain ⟨cl, h1, h2, h3, h4⟩ := ih cs (fun z hz => hl z (.tail _ hz)) hc
        refine ⟨cl, h1, h2, h3, fun z hz hf => ?_⟩
        rcases List.mem_cons.mp hz with rfl | hz
        · exact absurd hf hy
        · exact h4 z hz hf
  obtain ⟨cl, h1, h2, _, h4⟩ := key scope.names [] h (fun _ _ h => nomatch h)
  refine ⟨cl, ?_, fun y hy => ?_⟩
  · unfold closureFor
    exact congrArg (fun t => t >>= fun cs => (pure cs : Sem (List (Str × Addr)))) h1
  · have mem : (y, NameKind.free) ∈ scope.names := by
      have : ∀ {l : List (Str × NameKind)}, l.lookup y = some .free → (y, NameKind.free) ∈ l := by
        intro l
        induction l with
        | nil => intro h; cases h
        | cons z l ih =>
          obtain ⟨z1, z2⟩ := z
          intro h
          rw [List.lookup_cons] at h
          by_cases q : y = z1
          · subst q; rw [beq_self_eq_true] at h; cases h; exact .head _
          · rw [beq_eq_false_iff_ne.mpr q] at h; exact .tail _ (ih h)
      exact this hy
    obtain ⟨a, ha⟩ := Option.isSome_iff_exists.mp (h4 _ mem rfl)
    rw [show cl.lookup y = some a from ha, h2 y a ha]
theorem relabel_free {env : Env} : ∀ {names : List (Str × NameKind)} {x : Str}, names.lookup x = some .free →
    (names.map fun (n, k) => if (k == NameKind.free && env.scope.kind == .function && env.kindOf n == some .cell) then (n, NameKind.cell) else (n, k)).lookup x = some .cell ∨
    (names.map fun (n, k) => if (k == NameKind.free && env.scope.kind == .function && env.kindOf n == some .cell) then (n, NameKind.cell) else (n, k)).lookup x = some .free
  | [], _, h => by simp at h
  | (n, k') :: r, x, h => by
    have ih := @relabel_free env r x
    simp only [List.map_cons]
    by_cases hc : (k' == NameKind.free && env.scope.kind == .function && env.kindOf n == some .cell) = true
    · rw [if_pos hc]
      cases hx : x == n with
      | true => exact .inl (by simp [List.lookup_cons, hx])
      | false =>
        simp only [List.lookup_cons, hx] at h ⊢
        exact ih h
    · rw [if_neg hc]
      cases hx : x == n with
      | true => simp only [List.lookup_cons, hx] at h ⊢; cases h; exact .inr rfl
      | false =>
        simp only [List.lookup_cons, hx] at h ⊢
        exact ih h
theorem cell_use {cel : Loc} {scope : Scope} {x : Str} (h : cellScope cel scope x = true) : (∀ y ∈ scope.names, y.2 = .free → (cel.lookup y.1).isSome = true) ∧ (∀ y ∈ scope.names, y.2 ≠ .cell) ∧ (∀ y ∈ scope.names, y.2 = .local → scope.names.lookup y.1 = some .local) ∧ scope.kind = .function ∧ scope.names.lookup x = some .local ∧ ∀ y ∈ cel, scope.names.lookup y.1 = some .free := by
  unfold cellScope at h
  rw [Bool.and_eq_true, Bool.and_eq_true, Bool.and_eq_true, List.all_eq_true, List.all_eq_true] at h
  obtain ⟨⟨⟨h1, h2⟩, h3⟩, h4⟩ := h
  refine ⟨fun y hy e => ?_, fun y hy e => ?_, fun y hy e => ?_, ?_, eq_of_beq h3, fun y hy => eq_of_beq (h4 y hy)⟩
  · have := h1 y hy; rw [e] at this; simpa using this
  · have := h1 y hy; rw [e] at this; simp at this
  · have := h1 y hy; rw [e] at this; simpa using this
  · cases hk : scope.kind <;> first | rfl | (rw [hk] at h2; cases h2)
theorem comp_ok (hr : RecOk W lv rec) (hT : RecTOk W lv recT) {elt ta it : Expr} {ifs : List Expr} {k : Int} {scope : Scope} {pos : Pos} : Ok (evComp rec recT sc loc elt scope ta it ifs k) fun p =>
    ∀ (f : Fm) (env : Env) (s : Shared) (use : Option (Value → Sem Unit)) (Q E : Value → Shared → Prop), EnvOk W lv f sc loc env s →
      (∀ D C h' tk m, s.heap.get? C = none → s.heap.get? D = none → D ≠ C → s.heap.StaysIn h' → Rep [C] h' p (.ref D) → Bare h' D → h'.Ns C m → compPostR (model W.prog W.w) f.A E use Q (.ref D) C (.ok .next) ⟨h', s.gens, s.drawn, tk, s.os⟩) →
      wpR (model W.prog W.w) f.A (comprehension (.ListComp elt [⟨ta, it, ifs, k⟩] scope pos) scope env (firstIterPos [⟨ta, it, ifs, k⟩] pos) (newList []) (firstAsync [⟨ta, it, ifs, k⟩]) (firstIter [⟨ta, it, ifs, k⟩] env) use) Q E s := by
  refine .onlyIf fun hk => .with_ fun x hx => ?_
  have hta : ∃ px, ta = .Name x px := by
    cases ta with
    | Name y p => cases hx; exact ⟨_, rfl⟩
    | _ => cases hx
  obtain ⟨px, rfl⟩ := hta
  have hk : k = 0 := eq_of_beq hk
  subst hk
  refine .alt (.onlyIf fun hs => ?_) (.onlyIf fun hs => ?_)
  · obtain ⟨hs1, hs2⟩ := Bool.and_eq_true_iff.mp hs
    obtain ⟨o1, o2, o3, o4, o5⟩ := own_use hs2
    exact comp_core hr hT (by simpa using hs1) o2 o3 o4 o5 fun f env s C => ⟨[], closure_none o1, fun _ _ _ e => nomatch e⟩
  · refine cps fun Z fin => ?_
    obtain ⟨hs1, hs2⟩ := Bool.and_eq_true_iff.mp hs
    obtain ⟨o1, o2, o3, o4, o5, o6⟩ := cell_use hs2
    refine fin ?_
    refine comp_core hr hT (by simpa using hs1) o2 o3 o4 o5 fun f env s C => ?_
    have hcells : ∀ y ∈ scope.names, y.2 = .free → ∃ a, env.cells.lookup y.1 = some a := fun y hy hf => by
      obtain ⟨p, hp⟩ := Option.isSome_iff_exists.mp (o1 y hy hf)
      obtain ⟨_, a, _, ha, _⟩ := C.ce y.1 p hp
      exact ⟨a, ha⟩
    obtain ⟨cl, hcl, hlk⟩ := closure_cells (cel := sc.cel) hcells
    refine ⟨cl, hcl, fun Ca y p hp => ?_⟩
    have mem : (y, p) ∈ sc.cel := by
      have : ∀ {l : Loc}, l.lookup y = some p → (y, p) ∈ l := by
        intro l
        induction l with
        | nil => intro h; cases h
        | cons z l ih =>
          obtain ⟨z1, z2⟩ := z
          intro h
          rw [List.lookup_cons] at h
          by_cases q : y = z1
          · subst q; rw [beq_self_eq_true] at h; cases h; exact .head _
          · rw [beq_eq_false_iff_ne.mpr q] at h; exact .tail _ (ih h)
      exact this hp
    have hfree := o6 _ mem
    refine cps fun Z fin => ?_
    obtain ⟨_, a, v, ha, hcell, hrep⟩ := C.ce y p hp
    refine fin ?_
    exact ⟨relabel_free hfree, a, v, (hlk y hfree).trans ha, hcell, hrep⟩
theorem listcomp_ok (hr : RecOk W lv rec) (hT : RecTOk W lv recT) {elt ta it : Expr} {ifs : List Expr} {k : Int} {scope : Scope} {pos : Pos} : Ok (evComp rec recT sc loc elt scope ta it ifs k) fun p => Snd W lv sc loc (.ListComp elt [⟨ta, it, ifs, k⟩] scope pos) p :=
  fun p c e hc f env s Q E C g => by
    rw [eval_ListComp]
    refine comp_ok hr hT p c e hc f env s none Q E C fun D C' h' tk m hC hD hDC hk hp _ hn => ⟨m, hn, fun h'' hs => g _ _ _ ?_ ?_⟩
    · exact fun b o e => hs.extBut b o (by rintro rfl; rw [hC] at e; cases e) (hk b o e)
    · exact hp.turn (H := [C']) (H' := []) (fun a o n e => hs.extBut a o (fun q => n (q ▸ List.mem_singleton_self _)) e) (fun _ _ _ _ => List.not_mem_nil)
end
end Nt

set_option Elab.async false
set_option maxRecDepth 100000
set_option linter.all false
open PySem PySem.W PyProof.Rows PySem.Calls
namespace Nt
set_option genInjectivity false
set_option genSizeOf false

section
variable {W : Wd} {lv : Nat} {T : Tb} {sc : Sc} {loc : Loc} {f : Fm} {env : Env} {s : Shared} {Q E : Value → Shared → Prop} {rec : Rec} {recT : RecT}
noncomputable def CmpIs (prog : Program) (w : World) (A : Around) (s : Shared) (op : CmpOp) (x y : Value) (b : Bool) : Prop := ∀ (Q E : Value → Shared → Prop), Q (.bool b) s → wpAny (model prog w) A (compareOp op x y) Q E s
section
variable {prog : Program} {w : World} {A : Around}
theorem cmpInt_ok {x y : Int} {t u : Tok} : ∀ op, Ok (cmpInt op x y) fun b => CmpIs prog w A s op (.int x t) (.int y u) b
  | .Eq => .some fun _ Q E h => P.eq_int h
  | .NotEq => .some fun _ Q E h => P.ne_int h
  | .Lt => .some fun _ Q E h => P.lt_int h
  | .LtE => .some fun _ Q E h => P.le_int h
  | .Gt => .some fun _ Q E h => P.gt_int h
  | .GtE => .some fun _ Q E h => P.ge_int h
  | .Is | .IsNot | .In | .NotIn => .none
theorem cmpByt_ok {x y : List UInt8} {t u : Tok} : ∀ op, Ok (cmpByt op x y) fun b => CmpIs prog w A s op (.bytes x.toArray t) (.bytes y.toArray u) b
  | .Eq => .some fun _ Q E h => eq_L h
  | .NotEq => .some fun _ Q E h => ne_L h
  | .Lt | .LtE | .Gt | .GtE | .Is | .IsNot | .In | .NotIn => .none
theorem cmpIl_ok {x y : List Int} {a b : Addr} {vs us : List Value} (hA : A.units + 64 < cLine) (h1 : s.heap.IsList a vs.toArray) (h2 : IntsAre vs x) (h3 : s.heap.IsList b us.toArray) (h4 : IntsAre us y) : ∀ op, Ok (cmpIl op x y) fun c => CmpIs prog w A s op (.ref a) (.ref b) c
  | .Eq => .some fun _ Q E h => eq_intsK h1 h2 h3 h4 hA h
  | .NotEq => .some fun _ Q E h => ne_intsK h1 h2 h3 h4 hA h
  | .Lt | .LtE | .Gt | .GtE | .Is | .IsNot | .In | .NotIn => .none
theorem none_rep {h : Heap} {p : PV} {v : Value} (r : Rep [] h p v) : (v == Value.none) = p.isNone := by
  cases p with
  | none => rw [show v = .none from r]; rfl
  | bool => rw [show v = .bool _ from r]; rfl
  | int | str | bytes => obtain ⟨t, rfl⟩ := r; rfl
  | il | rl | sl => obtain ⟨a, vs, rfl, _⟩ := r; rfl
  | pair => obtain ⟨a, x, y, rfl, _⟩ := r; rfl
  | trip => obtain ⟨a, x, y, z, rfl, _⟩ := r; rfl
  | ba => obtain ⟨a, rfl, _⟩ := r; rfl
  | codec => obtain ⟨a, x, rfl, _⟩ := r; rfl
  | rng => obtain ⟨a, t, u, w, rfl, _⟩ := r; rfl
theorem cmpNone_ok {a : PV} {x : Value} (ha : Rep [] s.heap a x) : ∀ op, Ok (cmpNone op a) fun b => CmpIs prog w A s op x .none b
  | .Is => .some fun _ Q E h => is_none_gen (by rw [none_rep ha]; exact h)
  | .IsNot => .some fun _ Q E h => isnot_none_gen (by rw [none_rep ha]; exact h)
  | .Eq | .NotEq | .Lt | .LtE | .Gt | .GtE | .In | .NotIn => .none
end
theorem cmp_ok (hT : TbOk W lv T) {op : CmpOp} {a b : PV} {x y : Value} {A : Around} (hA : A.units + 64 < cLine) (ha : Rep [] s.heap a x) (hb : Rep [] s.heap b y) : Ok (cmpPV T op a b) fun c => CmpIs W.prog W.w A s op x y c := by
  refine .alt (.onlyIf fun hn => ?_) (.alt (.with_ fun i _ => .with_ fun j _ => ?_) (.alt (.with_ fun i _ => .with_ fun j _ => ?_) (.alt (.with_ fun i _ => .with_ fun j _ => ?_) ?_)))
  · have e := none_rep hb
    rw [hn] at e
    have e' : y = .none := eq_of_beq e
    subst e'
    exact cmpNone_ok ha op
  · obtain ⟨t, rfl⟩ := ha.at i.2
    obtain ⟨u, rfl⟩ := hb.at j.2
    exact cmpInt_ok op
  · obtain ⟨t, rfl⟩ := ha.at i.2
    obtain ⟨u, rfl⟩ := hb.at j.2
    exact cmpByt_ok op
  · obtain ⟨_, vs, rfl, _, h1, h2⟩ := ha.at i.2
    obtain ⟨_, us, rfl, _, h3, h4⟩ := hb.at j.2
    exact cmpIl_ok hA h1 h2 h3 h4 op
  · exact fun r c e hc Q E h => hT.cm op a b r c e hc A s x y Q E hA ha hb h
theorem units_ok (h : f.ok W lv) : f.A.units + 64 < cLine := by
  have := h.ru
  show f.un + 64 < cLine
  lia
theorem in_any {ps : List (List UInt8)} : ∀ {vs : List Value} {x : List UInt8}, BytesAre vs ps → (vs.toArray.any fun v => match v with | .bytes b _ => b.toList == x | _ => false) = ps.any (· == x) := by
  induction ps with
  | nil => intro vs x h; cases (show vs = [] from h); simp
  | cons b bs ih =>
    rintro vs x ⟨t, r, rfl, h⟩
    have := ih (x := x) h
    rw [List.any_toArray] at this ⊢
    rw [List.any_cons, List.any_cons, this]
theorem inPV_ok {prog : Program} {w : World} {A : Around} {a : PV} {x : Value} {l : List (List UInt8)} {vs : List Value} (ha : Rep [] s.heap a x) (hv : BytesAre vs l) : ∀ op, Ok (inPV op a l) fun b => ∀ (Q E : Value → Shared → Prop),
    (Q (.bool b) { s with heap := s.heap.push { cls := .type "tuple", data := .seq vs.toArray } }) → wpAny (model prog w) A (newTuple vs) (fun y s' => wpAny (model prog w) A (compareOp op x y) Q E s') E s := by
  intro op
  refine .with_ fun i _ => ?_
  obtain ⟨t, rfl⟩ := ha.at i.2
  have he : ∀ y, y ∈ vs.toArray → MeetsSeq.EqGives y (.bytes i.1.toArray t) ((fun v : Value => match v with | .bytes b _ => b.toList == i.1 | _ => false) y) := by
    intro y hy
    have hy : y ∈ vs := by simpa using hy
    clear ha
    induction l generalizing vs with
    | nil => cases (show vs = [] from hv); cases hy
    | cons b bs ih =>
      obtain ⟨u, r, rfl, h⟩ := hv
      rcases List.mem_cons.mp hy with rfl | hy
      · exact eqGives_bytes _ _ _ _
      · exact ih h (by simpa using hy) hy
  have sz : l.length ≤ 64 → vs.toArray.size ≤ sizeLine := fun h => by rw [List.size_toArray, hv.length, sizeLine_eq]; lia
  cases op with
  | In => exact .some fun hc Q E h => wpAny_newObj_type (SeqRoads2.in_tuple (n := 0) _ he (Heap.get?_push_size _ rfl) (by rw [in_any hv]; exact h)) (sz hc)
  | NotIn => exact .some fun hc Q E h => wpAny_newObj_type (SeqRoads2.notIn_tuple (n := 0) _ he (Heap.get?_push_size _ rfl) (by rw [in_any hv]; exact h)) (sz hc)
  | _ => exact .none
theorem truth {A : Around} {b : Bool} {Q : Bool → Shared → Prop} (h : Q b s) : wpR (model W.prog W.w) A (truthy (.bool b)) Q E s := wpR_of (wpAny_truthy_bool h)
theorem compare_ok (hT : TbOk W lv T) (hr : RecOk W lv rec) {l : Expr} {op : CmpOp} {pos : Pos} : ∀ r, Ok (evCmp T rec sc loc l op r) fun b => SndT W lv sc loc (.Compare l [op] [r] pos) b := by
  intro r
  by_cases ht : ∃ es k p, r = .Tuple es k p
  · obtain ⟨es, k, p, rfl⟩ := ht
    refine .onlyIf fun hi => .seq (hr sc loc l) fun a ha => .seq (evs_ok hr es) fun ps hps => .seq (byts_ok ps) fun bs hbs => fun b c e hc f env s Q E C g => ?_
    refine cmpR (ha f env s _ E C fun x h1 tk1 k1 r1 => tupR (hps f env _ p _ E (C.stays k1) fun vs h2 tk2 k2 r2 => ?_)) rfl
    have key := inPV_ok (prog := W.prog) (w := W.w) (A := f.A) (s := ⟨h2, s.gens, s.drawn, tk2, s.os⟩) (r1.stays k2) (hbs _ _ r2) op b c e hc (fun c s₃ => wpR (model W.prog W.w) f.A (truthy c) Q E s₃) E (truth (g _ _ (stays_trans k1 (stays_trans k2 (stays_push _ _)))))
    exact wpR_of (wpAny_mono key (fun _ _ h => wpR_of h) fun _ _ h => h)
  · have he : evCmp T rec sc loc l op r = onlyIf (!behindInMarks op r) (seq (rec sc loc l) fun a => seq (rec sc loc r) fun b => cmpPV T op a b) := by
      cases r with
      | Tuple es k p => exact absurd ⟨es, k, p, rfl⟩ ht
      | _ => rfl
    rw [he]
    clear he ht
    refine .onlyIf fun hb => .seq (hr sc loc l) fun a ha => .seq (hr sc loc r) fun b hb' => fun d c e hc f env s Q E C g => ?_
    refine cmpR (ha f env s _ E C fun x h1 tk1 k1 r1 => hb' f env _ _ E (C.stays k1) fun y h2 tk2 k2 r2 => wpR_of (cmp_ok (s := ⟨h2, s.gens, s.drawn, tk2, s.os⟩) hT (units_ok C.ok) (r1.stays k2) r2 d c e hc _ _ (truth (g _ _ (stays_trans k1 k2))))) (by simpa using hb)
theorem cmp_ok' (hT : TbOk W lv T) {op : CmpOp} {a b : PV} : Ok (cmpPV T op a b) fun c => ∀ (A : Around) (s : Shared) (x y : Value), A.units + 64 < cLine → Rep [] s.heap a x → Rep [] s.heap b y → CmpIs W.prog W.w A s op x y c :=
  fun t c e hc A s x y hA ha hb => cmp_ok hT hA ha hb t c e hc
theorem chain_ok (hT : TbOk W lv T) (hr : RecOk W lv rec) {l r₁ r₂ : Expr} {o₁ o₂ : CmpOp} {pos : Pos} : Ok (evChain T rec sc loc l r₁ r₂ o₁ o₂) fun b => SndT W lv sc loc (.Compare l [o₁, o₂] [r₁, r₂] pos) b := by
  refine .onlyIf fun hm => .seq (hr sc loc l) fun a ha => .seq (hr sc loc r₁) fun b hb => .seq (cmp_ok' hT) fun t ht => .with_ fun z hz => .with_ fun u hu => .some fun hc f env s Q E C g => ?_
  refine chainR (ha f env s _ E C fun x h1 tk1 k1 r1 => hb f env _ _ E (C.stays k1) fun y h2 tk2 k2 r2 => wpR_of (ht f.A ⟨h2, s.gens, s.drawn, tk2, s.os⟩ x y (units_ok C.ok) (r1.stays k2) r2 _ _ (truth ?_))) (by simpa using hm)
  cases t with
  | false => exact g _ _ (stays_trans k1 k2)
  | true =>
    obtain ⟨c1, c2⟩ := Cond.and_use (Cond.imp_use hc rfl)
    refine hr sc loc r₂ z.1 z.2 hz c1 f env _ _ E ((C.stays k1).stays (tk := tk2) k2) fun v h3 tk3 k3 r3 => wpR_of (cmp_ok' hT u.1 u.2 hu c2 f.A ⟨h3, s.gens, s.drawn, tk3, s.os⟩ y v (units_ok C.ok) (r2.stays k3) r3 _ _ (truth ?_))
    rw [Bool.true_and] at g
    exact g _ _ (stays_trans k1 (stays_trans k2 k3))
noncomputable def SndAll (W : Wd) (lv : Nat) (sc : Sc) (loc : Loc) (op : BoolOp) (es : List Expr) (b : Bool) : Prop :=
  ∀ (f : Fm) (env : Env) (s : Shared) (pos : Pos) (whole : Sem Value) (Q : Bool → Shared → Prop) (E : Value → Shared → Prop), EnvOk W lv f sc loc env s →
    (∀ h' tk, s.heap.StaysIn h' → Q b ⟨h', s.gens, s.drawn, tk, s.os⟩) → wpR (model W.prog W.w) f.A (isTrue (.BoolOp op es pos) env whole) Q E s
theorem all_ok (hT : RecTOk W lv recT) : ∀ es, Ok (evAll recT sc loc es) fun b => SndAll W lv sc loc .And es b
  | [] => .some fun _ f env s pos whole Q E C g => andR_nil (g _ _ (stays_refl _))
  | e :: es => .seq (hT sc loc e) fun x hx => .alt (.with_ fun y hy => .some fun hc f env s pos whole Q E C g => andR (hx f env s _ E C fun h1 tk1 k1 => by
    cases x with
    | false => exact g _ _ k1
    | true => exact all_ok hT es y.1 y.2 hy (Cond.imp_use hc rfl) f env _ pos whole Q E (C.stays k1) fun h2 tk2 k2 => by rw [Bool.true_and] at g; exact g _ _ (stays_trans k1 k2)))
    (.some fun hc f env s pos whole Q E C g => andR (hx f env s _ E C fun h1 tk1 k1 => by
      have hc : x = false := hc
      subst hc
      exact g _ _ k1))
theorem any_ok (hT : RecTOk W lv recT) : ∀ es, Ok (evAny recT sc loc es) fun b => SndAll W lv sc loc .Or es b
  | [] => .some fun _ f env s pos whole Q E C g => orR_nil (g _ _ (stays_refl _))
  | e :: es => .seq (hT sc loc e) fun x hx => .alt (.with_ fun y hy => .some fun hc f env s pos whole Q E C g => orR (hx f env s _ E C fun h1 tk1 k1 => by
    cases x with
    | true => exact g _ _ k1
    | false => exact any_ok hT es y.1 y.2 hy (Cond.imp_use hc rfl) f env _ pos whole Q E (C.stays k1) fun h2 tk2 k2 => by rw [Bool.false_or] at g; exact g _ _ (stays_trans k1 k2)))
    (.some fun hc f env s pos whole Q E C g => orR (hx f env s _ E C fun h1 tk1 k1 => by
      have hc : x = true := hc
      subst hc
      exact g _ _ k1))
theorem const_true {b : Bool} {k pos} {Q : Bool → Shared → Prop} {A : Around} {E : Value → Shared → Prop} (h : Q b s) : wpR (model W.prog W.w) A (isTrue (.Constant (.bool b) k pos) env (eval (.Constant (.bool b) k pos) env)) Q E s :=
  wpR_of (isTrue_plain (Constant_bool (wpAny_truthy_bool h)))
theorem evStep_ok (hT : TbOk W lv T) (hr : RecOk W lv rec) (ht : RecTOk W lv recT) : RecOk W lv (evStep T rec recT) := by
  intro sc loc e
  cases e with
  | Constant c k pos => exact const_ok _ _ _
  | Name x pos => exact name_ok hT
  | BinOp l op r pos => exact bin_ok hr
  | UnaryOp op x pos => exact un_ok hr
  | IfExp t a b pos => exact if_ok hr ht
  | Subscript v i pos => exact sub_ok hr _
  | Tuple es k pos => exact tup_ok hr
  | List es pos => exact list_ok hr
  | Call fn as ks pos =>
    cases ks with
    | nil => exact call_ok hT hr _
    | cons => exact .none
  | ListComp elt gs scope pos =>
    rcases gs with _ | ⟨⟨ta, it, ifs, k⟩, _ | _⟩
    · exact .none
    · exact listcomp_ok hr ht
    · exact .none
  | _ => exact .none
theorem evTStep_ok (hT : TbOk W lv T) (hr : RecOk W lv rec) (ht : RecTOk W lv recT) : RecTOk W lv (evTStep T rec recT) := by
  intro sc loc e
  cases e with
  | Constant c k pos =>
    cases c with
    | bool b => exact .some fun _ f env s Q E C g => const_true (g _ _ (stays_refl _))
    | _ => exact .none
  | UnaryOp op x pos =>
    cases op with
    | Not => exact .seq (ht _ _ _) fun x hx => .some fun _ f env s Q E C g => notR (hx f env s _ E C g)
    | _ => exact .none
  | BoolOp op es pos =>
    cases op with
    | And => exact fun b c e hc f env s Q E C g => all_ok ht _ b c e hc f env s _ _ Q E C g
    | Or => exact fun b c e hc f env s Q E C g => any_ok ht _ b c e hc f env s _ _ Q E C g
  | Compare l ops rs pos =>
    rcases ops with _ | ⟨o, _ | ⟨o', _ | _⟩⟩
    · exact .none
    · rcases rs with _ | ⟨r, _ | _⟩
      · exact .none
      · exact compare_ok hT hr _
      · exact .none
    · rcases rs with _ | ⟨r, _ | ⟨r', _ | _⟩⟩
      · exact .none
      · exact .none
      · exact chain_ok hT hr
      · exact .none
    · exact .none
  | _ => exact .none
theorem ev_ok (hT : TbOk W lv T) : ∀ n, RecOk W lv (ev T n).1 ∧ RecTOk W lv (ev T n).2
  | 0 => ⟨fun _ _ _ => .none, fun _ _ _ => .none⟩
  | n + 1 => ⟨evStep_ok hT (ev_ok hT n).1 (ev_ok hT n).2, evTStep_ok hT (ev_ok hT n).1 (ev_ok hT n).2⟩
end
end Nt

set_option Elab.async false
set_option maxRecDepth 100000
set_option linter.all false
open PySem PySem.W PyProof.Rows PySem.Calls
namespace Nt
set_option genInjectivity false
set_option genSizeOf false

/-- a name's new value, in its place -/
noncomputable def put (x : Str) (p : PV) : Loc → Loc
  | [] => [(x, p)]
  | (y, q) :: r => match y == x with
    | true => (x, p) :: r
    | false => (y, q) :: put x p r
theorem lookup_put {x : Str} {p : PV} {y : Str} : ∀ l : Loc, (put x p l).lookup y = if y = x then some p else l.lookup y
  | [] => by
    unfold put
    rw [List.lookup_cons]
    by_cases h : y = x
    · subst h; simp
    · rw [beq_eq_false_iff_ne.mpr h, if_neg h]
  | (z, q) :: r => by
    unfold put
    by_cases hz : z = x
    · subst hz
      rw [beq_self_eq_true]
      by_cases h : y = z
      · subst h; simp
      · rw [List.lookup_cons, List.lookup_cons, beq_eq_false_iff_ne.mpr h, if_neg h]
    · rw [beq_eq_false_iff_ne.mpr hz]
      show List.lookup y ((z, q) :: put x p r) = _
      rw [List.lookup_cons, List.lookup_cons, lookup_put r]
      by_cases h : y = z
      · subst h; simp [hz]
      · rw [beq_eq_false_iff_ne.mpr h]

inductive Kd where
  | list | ba | iter
/-- no object of the kind stands in it -/
noncomputable def PV.free (k : Kd) : PV → Bool
  | .il _ | .rl _ | .sl _ => match k with
    | .list => false
    | _ => true
  | .ba _ => match k with
    | .ba => false
    | _ => true
  | .pair p q => p.free k && q.free k
  | .trip p q r => p.free k && (q.free k && r.free k)
  | _ => true
noncomputable def ofKind : Kd → Obj → Prop
  | .list, o => o.cls = .type "list" ∧ ∃ vs n, o.data = .seq vs n
  | .ba, o => ∃ b, o.data = .bytearray b
  | .iter, o => (∃ vs, o.data = .fields vs) ∧ o.cls ≠ .type "range"
theorem ofKind_notDict {k : Kd} {o : Obj} (h : ofKind k o) : ∀ es ep, o.data ≠ .dict es ep := fun es ep q => by
  cases k
  · obtain ⟨_, vs, n, e⟩ := h; rw [e] at q; cases q
  · obtain ⟨b, e⟩ := h; rw [e] at q; cases q
  · obtain ⟨⟨b, e⟩, _⟩ := h; rw [e] at q; cases q
theorem ofKind_notCell {k : Kd} {o : Obj} (h : ofKind k o) : ∀ v, o.data ≠ .cell v := fun v q => by
  cases k
  · obtain ⟨_, vs, n, e⟩ := h; rw [e] at q; cases q
  · obtain ⟨b, e⟩ := h; rw [e] at q; cases q
  · obtain ⟨⟨b, e⟩, _⟩ := h; rw [e] at q; cases q
/-- one object of a kind is turned -/
theorem Rep.but {k : Kd} {H : List Addr} {h h' : Heap} {a : Addr} {o : Obj} (ho : h.get? a = some o) (hk : ofKind k o) (hs : ∀ b ob, b ≠ a → h.get? b = some ob → h'.get? b = some ob) :
    ∀ {p : PV} {v : Value}, p.free k = true → Rep H h p v → Rep H h' p v := by
  have ne : ∀ {b : Addr} {ob : Obj}, h.get? b = some ob → ¬ ofKind k ob → b ≠ a := fun {b ob} e n q => by
    subst q; rw [ho] at e; cases e; exact n hk
  have lst : ∀ {b : Addr} {items : Array Value}, k ≠ .list → h.IsList b items → h'.IsList b items := fun {b items} nk ⟨ob, e, c, n, d⟩ => ⟨ob, hs _ _ (ne e (by cases k with | list => exact absurd rfl nk | ba => (rintro ⟨x, y⟩; rw [d] at y; cases y) | iter => (rintro ⟨⟨x, y⟩, _⟩; rw [d] at y; cases y))) e, c, n, d⟩
  have tup : ∀ {b : Addr} {items : Array Value}, IsTup h b items → IsTup h' b items := fun {b items} ⟨ob, e, c, n, d⟩ => ⟨ob, hs _ _ (ne e (by cases k with | list => (rintro ⟨x, _⟩; rw [c] at x; injection x with x; revert x; decide) | ba => (rintro ⟨x, y⟩; rw [d] at y; cases y) | iter => (rintro ⟨⟨x, y⟩, _⟩; rw [d] at y; cases y))) e, c, n, d⟩
  intro p
  induction p with
  | none | bool | int | str | bytes => exact fun _ r => r
  | il l => rintro v hp ⟨b, vs, e, m, x, i⟩; exact ⟨b, vs, e, m, lst (by rintro rfl; cases hp) x, i⟩
  | rl l => rintro v hp ⟨b, vs, e, m, x, i⟩; exact ⟨b, vs, e, m, lst (by rintro rfl; cases hp) x, i⟩
  | sl l => rintro v hp ⟨b, vs, e, m, x, i⟩; exact ⟨b, vs, e, m, lst (by rintro rfl; cases hp) x, i⟩
  | pair p q ip iq => rintro v hp ⟨b, x, y, e, m, t, r1, r2⟩; exact ⟨b, x, y, e, m, tup t, ip (Bool.and_eq_true_iff.mp hp).1 r1, iq (Bool.and_eq_true_iff.mp hp).2 r2⟩
  | trip p q r ip iq ir => rintro v hp ⟨b, x, y, z, e, m, t, r1, r2, r3⟩; exact ⟨b, x, y, z, e, m, tup t, ip (Bool.and_eq_true_iff.mp hp).1 r1, iq (Bool.and_eq_true_iff.mp (Bool.and_eq_true_iff.mp hp).2).1 r2, ir (Bool.and_eq_true_iff.mp (Bool.and_eq_true_iff.mp hp).2).2 r3⟩
  | ba b => rintro v hp ⟨b, e, m, g⟩; exact ⟨b, e, m, hs _ _ (ne g (by cases k with | list => (rintro ⟨_, x, n, y⟩; cases y) | ba => cases hp | iter => (rintro ⟨⟨x, y⟩, _⟩; cases y))) g⟩
  | rng x y z => rintro v hp ⟨b, t, u, w, e, m, x⟩; exact ⟨b, t, u, w, e, m, hs _ _ (ne x (by cases k with | list => (rintro ⟨_, x, n, y⟩; cases y) | ba => (rintro ⟨x, y⟩; cases y) | iter => (rintro ⟨_, x⟩; exact x rfl))) x⟩
  | codec => rintro v hp ⟨b, dx, e, m, d, g, g'⟩; exact ⟨b, dx, e, m, d, hs _ _ (ne g (by cases k with | list => (rintro ⟨_, x, n, y⟩; cases y) | ba => (rintro ⟨x, y⟩; cases y) | iter => (rintro ⟨⟨x, y⟩, _⟩; cases y))) g, hs _ _ (ne g' (by cases k with | list => (rintro ⟨_, x, n, y⟩; cases y) | ba => (rintro ⟨x, y⟩; cases y) | iter => (rintro ⟨⟨x, y⟩, _⟩; cases y))) g'⟩

theorem ns_data {h : Heap} {L : Addr} {m : Str → Option Value} (n : h.Ns L m) : ∃ o es ep, h.get? L = some o ∧ o.data = .dict es ep := let ⟨o, es, ep, e, d, _⟩ := n; ⟨o, es, ep, e, d⟩
noncomputable def PV.plain : PV → Bool
  | .codec => false
  | .pair p q => p.plain && q.plain
  | .trip p q r => p.plain && (q.plain && r.plain)
  | _ => true
/-- no object of a value is a frame's namespace -/
theorem Rep.apart {h : Heap} {L : Addr} {H : List Addr} {m : Str → Option Value} (n : h.Ns L m) : ∀ {p : PV} {v : Value}, (p.plain = true ∨ ∃ x y, m x = some y) → Rep H h p v → Rep (L :: H) h p v := by
  obtain ⟨o, es, ep, e, d, _, hf⟩ := n
  have ne : ∀ {a : Addr} {o' : Obj}, h.get? a = some o' → (∀ es ep, o'.data ≠ .dict es ep) → a ∉ H → a ∉ L :: H := fun {a o'} e' d' k q => by
    rcases List.mem_cons.mp q with q | q
    · rw [q, e] at e'
      cases e'
      exact d' _ _ d
    · exact k q
  have nl : ∀ {a : Addr} {items : Array Value}, h.IsList a items → a ∉ H → a ∉ L :: H := fun {a items} x => ne x.choose_spec.1 (fun _ _ q => by obtain ⟨_, n, z⟩ := x.choose_spec.2; rw [z] at q; cases q)
  have nt : ∀ {a : Addr} {items : Array Value}, IsTup h a items → a ∉ H → a ∉ L :: H := fun {a items} x => ne x.choose_spec.1 (fun _ _ q => by obtain ⟨_, n, z⟩ := x.choose_spec.2; rw [z] at q; cases q)
  intro p
  induction p with
  | none | bool | int | str | bytes => exact fun _ r => r
  | il l => rintro v - ⟨a, vs, e, m, x, i⟩; exact ⟨a, vs, e, nl x m, x, i⟩
  | rl l => rintro v - ⟨a, vs, e, m, x, i⟩; exact ⟨a, vs, e, nl x m, x, i⟩
  | sl l => rintro v - ⟨a, vs, e, m, x, i⟩; exact ⟨a, vs, e, nl x m, x, i⟩
  | pair p q ip iq => rintro v hp ⟨a, x, y, e, m, t, r1, r2⟩; exact ⟨a, x, y, e, nt t m, t, ip (hp.imp (fun z => (Bool.and_eq_true_iff.mp z).1) id) r1, iq (hp.imp (fun z => (Bool.and_eq_true_iff.mp z).2) id) r2⟩
  | trip p q r ip iq ir =>
    rintro v hp ⟨a, x, y, z, e, m, t, r1, r2, r3⟩
    exact ⟨a, x, y, z, e, nt t m, t, ip (hp.imp (fun z => (Bool.and_eq_true_iff.mp z).1) id) r1, iq (hp.imp (fun z => (Bool.and_eq_true_iff.mp (Bool.and_eq_true_iff.mp z).2).1) id) r2, ir (hp.imp (fun z => (Bool.and_eq_true_iff.mp (Bool.and_eq_true_iff.mp z).2).2) id) r3⟩
  | ba b => rintro v - ⟨a, e, m, g⟩; exact ⟨a, e, ne g (fun _ _ q => nomatch q) m, g⟩
  | rng x y z => rintro v - ⟨a, t, u, w, e, m, x⟩; exact ⟨a, t, u, w, e, ne x (fun _ _ q => nomatch q) m, x⟩
  | codec =>
    rintro v hp ⟨a, dx, e', m, dm, g, g'⟩
    refine ⟨a, dx, e', ne g (fun _ _ q => nomatch q) m, fun q => ?_, g, g'⟩
    rcases List.mem_cons.mp q with q | q
    · rcases hp with hp | ⟨x, y, hp⟩
      · cases hp
      · rw [q, e] at g'
        cases g'
        cases d
        rw [← hf x] at hp
        cases hp
    · exact dm q

/-- the addresses that a frame's own names hold -/
noncomputable def OwnAt (m : Str → Option Value) (own : List Str) (a : Addr) : Prop := ∃ x ∈ own, m x = some (.ref a)
/-- a frame's state, told without a heap -/
structure StOk (W : Wd) (lv : Nat) (f : Fm) (scope : Scope) (cel loc : Loc) (own : List Str) (m : Str → Option Value) (s : Shared) : Prop where
  sc : f.cs = scope
  ce : ∀ x p, cel.lookup x = some p → (f.env.kindOf x = some .cell ∨ f.env.kindOf x = some .free) ∧ ∃ a v, f.env.cells.lookup x = some a ∧ s.heap.IsCell a (some v) ∧ Rep [f.L] s.heap p v
  ok : f.ok W lv
  fr : Fr f.h₀ f.L s.heap m
  lc : Lc [f.L] s.heap m loc
  ow : ∀ x ∈ own, ∃ a, m x = some (.ref a) ∧ f.h₀.get? a = none ∧ a ≠ f.L ∧ Bare s.heap a

section
variable {W : Wd} {lv : Nat} {f : Fm} {scope : Scope} {cel loc loc' : Loc} {own own' : List Str} {s : Shared} {m m' m₂ : Str → Option Value}
theorem nil_of {a : Addr} {H : List Addr} : a ∈ ([] : List Addr) → a ∈ H := fun e => nomatch e
theorem StOk.env (c : StOk W lv f scope cel loc own m s) : EnvOk W lv f ⟨scope.names, cel⟩ loc f.env s where
  lo := fun x e => by show f.cs.names.lookup x = _; rw [c.sc]; exact e
  gl := fun x e => by show f.cs.names.lookup x = _; rw [c.sc]; exact e
  ce := fun x p e => let ⟨k, a, v, e1, e2, e3⟩ := c.ce x p e; ⟨k, a, v, e1, e2, e3.less fun _ => nil_of⟩
  k := c.ok.k
  eg := rfl
  eb := rfl
  ok := c.ok
  fr := ⟨m, c.fr⟩
  ns := ⟨m, c.fr.ns, fun x p e => let ⟨v, a, b⟩ := c.lc x p e; ⟨v, a, b.less fun _ => nil_of⟩⟩
/-- from one state of a frame to a later one -/
structure Nx (W : Wd) (lv : Nat) (f : Fm) (scope : Scope) (cel : Loc) (own : List Str) (m : Str → Option Value) (s : Shared) (l : Loc) (o : List Str) (m' : Str → Option Value) (h' : Heap) (tk : Nat) : Prop where
  kp : ∀ a ob, s.heap.get? a = some ob → a ≠ f.L → ¬ OwnAt m own a → h'.get? a = some ob
  fresh : ∀ a, OwnAt m' o a → OwnAt m own a ∨ s.heap.get? a = none
  ok : StOk W lv f scope cel l o m' ⟨h', s.gens, s.drawn, tk, s.os⟩
theorem Nx.trans {l l₂ : Loc} {o o₂ : List Str} {h' h₂ : Heap} {tk tk₂ : Nat} (x : Nx W lv f scope cel own m s l o m' h' tk) (y : Nx W lv f scope cel o m' ⟨h', s.gens, s.drawn, tk, s.os⟩ l₂ o₂ m₂ h₂ tk₂) : Nx W lv f scope cel own m s l₂ o₂ m₂ h₂ tk₂ where
  kp := fun a ob e hL ho => y.kp a ob (x.kp a ob e hL ho) hL fun q => (x.fresh a q).elim ho fun z => by rw [z] at e; cases e
  fresh := fun a q => (y.fresh a q).elim (x.fresh a) fun z => by
    by_cases ho : OwnAt m own a
    · exact .inl ho
    · refine .inr ?_
      cases e : s.heap.get? a with
      | none => rfl
      | some ob =>
        by_cases hL : a = f.L
        · obtain ⟨ol, _, _, el, _⟩ := ns_data x.ok.fr.ns
          rw [hL] at z
          exact absurd (z.symm.trans el) (by simp)
        · have := x.kp a ob e hL ho
          exact absurd (z.symm.trans this) (by simp)
  ok := y.ok
theorem Nx.of_stays {h' : Heap} {tk : Nat} (c : StOk W lv f scope cel loc own m s) (k : s.heap.StaysIn h') : Nx W lv f scope cel own m s loc own m h' tk :=
  ⟨fun a ob e _ _ => k a ob e, fun a h => .inl h, ⟨c.sc, fun x p e => let ⟨a, b, v, e1, e2, e3⟩ := c.ce x p e; ⟨a, b, v, e1, cell_stays k e2, e3.stays k⟩, c.ok, c.fr.keeps k, c.lc.stays k, fun x hx => let ⟨a, e1, e2, e4, e3⟩ := c.ow x hx; ⟨a, e1, e2, e4, e3.stays k⟩⟩⟩
theorem StOk.stays {h' : Heap} {tk : Nat} (c : StOk W lv f scope cel loc own m s) (k : s.heap.StaysIn h') : StOk W lv f scope cel loc own m ⟨h', s.gens, s.drawn, tk, s.os⟩ := (Nx.of_stays c k).ok
theorem Nx.self (c : StOk W lv f scope cel loc own m s) : Nx W lv f scope cel own m s loc own m s.heap s.toks := Nx.of_stays c (stays_refl _)
theorem Nx.sub {l : Loc} {o : List Str} {h' : Heap} {tk : Nat} (x : Nx W lv f scope cel own m s l o m' h' tk) (hl : subLoc loc' l) (ho : ∀ y ∈ own', y ∈ o) : Nx W lv f scope cel own m s loc' own' m' h' tk :=
  ⟨x.kp, fun a ⟨y, hy, e⟩ => x.fresh a ⟨y, ho y hy, e⟩, x.ok.sc, x.ok.ce, x.ok.ok, x.ok.fr, x.ok.lc.sub hl, fun y hy => x.ok.ow y (ho y hy)⟩
theorem StOk.sub (c : StOk W lv f scope cel loc own m s) (hl : subLoc loc' loc) (ho : ∀ y ∈ own', y ∈ own) : StOk W lv f scope cel loc' own' m s := ((Nx.self c).sub hl ho).ok
theorem Nx.less {l : Loc} {o own₂ : List Str} {h' : Heap} {tk : Nat} (x : Nx W lv f scope cel own m s l o m' h' tk) (ho : ∀ y ∈ own, y ∈ own₂) : Nx W lv f scope cel own₂ m s l o m' h' tk :=
  ⟨fun a ob e hL q => x.kp a ob e hL fun ⟨y, hy, z⟩ => q ⟨y, ho y hy, z⟩, fun a q => (x.fresh a q).imp (fun ⟨y, hy, z⟩ => ⟨y, ho y hy, z⟩) id, x.ok⟩

theorem cell_apart {L a : Addr} {h h' : Heap} {m : Str → Option Value} {v : Option Value} (n : h.Ns L m) (k : ∀ b ob, b ≠ L → h.get? b = some ob → h'.get? b = some ob) (c : h.IsCell a v) : h'.IsCell a v := by
  obtain ⟨o, e, d⟩ := c
  refine ⟨o, k _ _ (fun q => ?_) e, d⟩
  obtain ⟨o', es, ep, e', d'⟩ := ns_data n
  rw [q, e'] at e
  cases e
  rw [d'] at d
  cases d
theorem Lc.put {H : List Addr} {h : Heap} {m : Str → Option Value} {loc : Loc} {x : Str} {v : Value} {p : PV} (c : Lc H h m loc) (r : Rep H h p v) :
    Lc H h (fun y => if y = x then some v else m y) (put x p loc) := fun y q e => by
  rw [lookup_put] at e
  by_cases h1 : y = x
  · subst h1
    rw [if_pos rfl] at e
    cases e
    exact ⟨v, if_pos rfl, r⟩
  · rw [if_neg h1] at e
    obtain ⟨v', a, b⟩ := c y q e
    exact ⟨v', (if_neg h1).trans a, b⟩
/-- own names without one -/
noncomputable def without (x : Str) : List Str → List Str
  | [] => []
  | y :: r => match y == x with
    | true => without x r
    | false => y :: without x r
theorem mem_without {x y : Str} : ∀ {l : List Str}, y ∈ without x l → y ≠ x ∧ y ∈ l
  | z :: r, h => by
    unfold without at h
    by_cases hz : z = x
    · subst hz
      rw [beq_self_eq_true] at h
      exact ⟨(mem_without h).1, .tail _ (mem_without h).2⟩
    · rw [beq_eq_false_iff_ne.mpr hz] at h
      rcases List.mem_cons.mp h with rfl | h
      · exact ⟨hz, .head _⟩
      · exact ⟨(mem_without h).1, .tail _ (mem_without h).2⟩
/-- a name is stored -/
theorem Nx.stored {own₀ : List Str} {m₀ : Str → Option Value} {s₀ : Shared} {h₁ h' : Heap} {tk₁ : Nat} {x : Str} {v : Value} {p : PV} {tk : Nat} (z : Nx W lv f scope cel own₀ m₀ s₀ loc own m h₁ tk₁) (hn : h'.Ns f.L (fun y => if y = x then some v else m y))
    (hs : ∀ b ob, b ≠ f.L → h₁.get? b = some ob → h'.get? b = some ob) (hr : Rep [f.L] h' p v) (ho : ∀ y ∈ own', (y ≠ x ∧ y ∈ own) ∨ (y = x ∧ ∃ a, v = .ref a ∧ f.h₀.get? a = none ∧ (Bare h₁ a ∧ a ≠ f.L) ∧ (OwnAt m₀ own₀ a ∨ s₀.heap.get? a = none))) :
    Nx W lv f scope cel own₀ m₀ s₀ (put x p loc) own' (fun y => if y = x then some v else m y) h' tk := by
  have c := z.ok
  have same : Same [f.L] h₁ h' := fun a o n e => hs a o (fun q => n (q ▸ List.mem_singleton_self _)) e
  refine ⟨fun a ob e n1 n2 => hs a ob n1 (z.kp a ob e n1 n2), fun a ⟨y, hy, e⟩ => ?_, c.sc, fun y q e => ?_, c.ok, ⟨hn, fun b ob e => hs b ob (fun q => ?_) (c.fr.keep b ob e), c.fr.above⟩, (c.lc.turn (H' := [f.L]) same fun _ _ n _ => n).put hr, fun y hy => ?_⟩
  · rcases ho y hy with ⟨h1, h2⟩ | ⟨rfl, b, rfl, _, _, h3⟩
    · exact z.fresh a ⟨y, h2, (if_neg h1).symm.trans e⟩
    · have : some (Value.ref b) = some (Value.ref a) := (if_pos rfl).symm.trans e
      cases this
      exact h3
  · refine cps fun Z fin => ?_
    obtain ⟨k, b, u, e1, e2, e3⟩ := c.ce y q e
    refine fin ?_
    exact ⟨k, b, u, e1, cell_apart c.fr.ns hs e2, e3.same same⟩
  · rw [q] at e
    exact Nat.lt_irrefl _ (Nat.lt_of_lt_of_le (Heap.lt_size e) c.fr.above)
  · rcases ho y hy with ⟨h1, h2⟩ | ⟨rfl, a, rfl, h3, ⟨⟨ob, h4, h5⟩, h6⟩, _⟩
    · refine cps fun Z fin => ?_
      obtain ⟨a, e1, e2, e4, ob, e3, e5⟩ := c.ow y h2
      refine fin ?_
      exact ⟨a, (if_neg h1).trans e1, e2, e4, ob, hs _ _ e4 e3, e5⟩
    · exact ⟨a, if_pos rfl, h3, h6, ob, hs _ _ h6 h4, h5⟩
noncomputable def isNil : Loc → Bool
  | [] => true
  | _ => false
theorem Lc.some_of {H : List Addr} {h : Heap} (c : Lc H h m loc) (n : isNil loc = false) : ∃ x y, m x = some y := by
  cases loc with
  | nil => cases n
  | cons a r =>
    obtain ⟨v, e, _⟩ := c a.1 a.2 (by rw [List.lookup_cons, beq_self_eq_true])
    exact ⟨_, _, e⟩
/-- a value that stands apart is stored under a local name -/
theorem Nx.storeA {own₀ : List Str} {m₀ : Str → Option Value} {s₀ : Shared} {h₁ : Heap} {tk₁ : Nat} {M : Model} {A : Around} {E : Value → Shared → Prop} {x : Str} {v : Value} {p : PV} {Q : Unit → Shared → Prop} (z : Nx W lv f scope cel own₀ m₀ s₀ loc own m h₁ tk₁)
    (hr : Rep [f.L] h₁ p v) (hx : scope.names.lookup x = some .local)
    (ho : ∀ y ∈ own', (y ≠ x ∧ y ∈ own) ∨ (y = x ∧ ∃ a, v = .ref a ∧ f.h₀.get? a = none ∧ (Bare h₁ a ∧ a ≠ f.L) ∧ (OwnAt m₀ own₀ a ∨ s₀.heap.get? a = none)))
    (g : ∀ m' h' tk, Nx W lv f scope cel own₀ m₀ s₀ (put x p loc) own' m' h' tk → (∀ b ob, b ≠ f.L → h₁.get? b = some ob → h'.get? b = some ob) → (∀ y, m' y = if y = x then some v else m y) → Q () ⟨h', s₀.gens, s₀.drawn, tk, s₀.os⟩) : wpAny M A (storeName f.env x v) Q E ⟨h₁, s₀.gens, s₀.drawn, tk₁, s₀.os⟩ := by
  have c := z.ok
  refine wpAny_storeName_local (by show f.cs.names.lookup x = _; rw [c.sc]; exact hx) c.fr.ns (fun h' hn hs => ?_) (by show (f.cs.kind == .class || (f.cs.kind == .module && f.L != mainGlobals)) = false; rw [c.ok.k]; rfl)
  have hs' : ∀ b ob, b ≠ f.L → h₁.get? b = some ob → h'.get? b = some ob := fun b ob n e => hs.extBut b ob n e
  exact g _ h' _ (Nx.stored z hn hs' (hr.same fun a o n e => hs' a o (fun q => n (q ▸ List.mem_singleton_self _)) e) ho) hs' fun _ => rfl
/-- a value is stored under a local name -/
theorem Nx.store {own₀ : List Str} {m₀ : Str → Option Value} {s₀ : Shared} {h₁ : Heap} {tk₁ : Nat} {M : Model} {A : Around} {E : Value → Shared → Prop} {x : Str} {v : Value} {p : PV} {Q : Unit → Shared → Prop} (z : Nx W lv f scope cel own₀ m₀ s₀ loc own m h₁ tk₁)
    (hp : (p.plain || !isNil loc) = true) (hr : Rep [] h₁ p v) (hx : scope.names.lookup x = some .local)
    (ho : ∀ y ∈ own', (y ≠ x ∧ y ∈ own) ∨ (y = x ∧ ∃ a, v = .ref a ∧ f.h₀.get? a = none ∧ (Bare h₁ a ∧ a ≠ f.L) ∧ (OwnAt m₀ own₀ a ∨ s₀.heap.get? a = none)))
    (g : ∀ m' h' tk, Nx W lv f scope cel own₀ m₀ s₀ (put x p loc) own' m' h' tk → (∀ b ob, b ≠ f.L → h₁.get? b = some ob → h'.get? b = some ob) → Q () ⟨h', s₀.gens, s₀.drawn, tk, s₀.os⟩) : wpAny M A (storeName f.env x v) Q E ⟨h₁, s₀.gens, s₀.drawn, tk₁, s₀.os⟩ := by
  have c := z.ok
  exact z.storeA (Rep.apart c.fr.ns ((Bool.or_eq_true_iff.mp hp).imp id fun z => c.lc.some_of (by simpa using z)) hr) hx ho fun m' h' tk y k _ => g m' h' tk y k
theorem keepOwn {x : Str} {v : Value} {h₁ : Heap} {own₀ : List Str} {m₀ : Str → Option Value} {s₀ : Shared} : ∀ y ∈ without x own, (y ≠ x ∧ y ∈ own) ∨ (y = x ∧ ∃ a, v = .ref a ∧ f.h₀.get? a = none ∧ (Bare h₁ a ∧ a ≠ f.L) ∧ (OwnAt m₀ own₀ a ∨ s₀.heap.get? a = none)) :=
  fun y hy => .inl (mem_without hy)
/-- a frame's own object is turned -/
noncomputable def cutLoc (k : Kd) : Loc → Loc
  | [] => []
  | (x, p) :: r => match p.free k with
    | true => (x, p) :: cutLoc k r
    | false => cutLoc k r
theorem Lc.cut {k : Kd} {H : List Addr} {h h' : Heap} {a : Addr} {o : Obj} (ho : h.get? a = some o) (hk : ofKind k o) (hs : ∀ b ob, b ≠ a → h.get? b = some ob → h'.get? b = some ob) : ∀ {loc : Loc}, (∀ y ∈ loc, ∃ v, m y.1 = some v ∧ Rep H h y.2 v) →
    ∀ y ∈ cutLoc k loc, ∃ v, m y.1 = some v ∧ Rep H h' y.2 v
  | (x, p) :: r, c, y, hy => by
    unfold cutLoc at hy
    cases e : p.free k with
    | true =>
      rw [e] at hy
      rcases List.mem_cons.mp hy with rfl | hy
      · obtain ⟨v, a, b⟩ := c _ (.head _)
        exact ⟨v, a, b.but ho hk hs e⟩
      · exact Lc.cut ho hk hs (fun y hy => c y (.tail _ hy)) y hy
    | false =>
      rw [e] at hy
      exact Lc.cut ho hk hs (fun y hy => c y (.tail _ hy)) y hy
/-- each name stands once -/
noncomputable def onceIn : Loc → Bool
  | [] => true
  | (x, _) :: r => (r.lookup x).isNone && onceIn r
theorem lookup_mem : ∀ {loc : Loc} {x : Str} {p : PV}, loc.lookup x = some p → (x, p) ∈ loc
  | (y, q) :: r, x, p, e => by
    rw [List.lookup_cons] at e
    by_cases h : x = y
    · subst h
      rw [beq_self_eq_true] at e
      cases e
      exact .head _
    · rw [beq_eq_false_iff_ne.mpr h] at e
      exact .tail _ (lookup_mem e)
theorem mem_lookup : ∀ {loc : Loc} {x : Str} {p : PV}, onceIn loc = true → (x, p) ∈ loc → loc.lookup x = some p
  | (y, q) :: r, x, p, o, h => by
    unfold onceIn at o
    obtain ⟨o1, o2⟩ := Bool.and_eq_true_iff.mp o
    rw [List.lookup_cons]
    rcases List.mem_cons.mp h with h | h
    · cases h; rw [beq_self_eq_true]
    · have := mem_lookup o2 h
      by_cases e : x = y
      · subst e; rw [this] at o1; cases o1
      · rw [beq_eq_false_iff_ne.mpr e]; exact this
noncomputable def freeAll (k : Kd) : Loc → Bool
  | [] => true
  | (_, p) :: r => p.free k && freeAll k r
theorem freeAll_at {k : Kd} : ∀ {loc : Loc} {x : Str} {p : PV}, freeAll k loc = true → loc.lookup x = some p → p.free k = true
  | (y, q) :: r, x, p, o, e => by
    unfold freeAll at o
    obtain ⟨o1, o2⟩ := Bool.and_eq_true_iff.mp o
    rcases List.mem_cons.mp (lookup_mem e) with h | h
    · cases h; exact o1
    · rw [List.lookup_cons] at e
      by_cases q : x = y
      · subst q; rw [beq_self_eq_true] at e; cases e; exact o1
      · rw [beq_eq_false_iff_ne.mpr q] at e; exact freeAll_at o2 e
/-- an iterator moves -/
theorem Nx.moved {own₀ : List Str} {m₀ : Str → Option Value} {s₀ : Shared} {h₁ h' : Heap} {tk tk₁ : Nat} {a : Addr} {o : Obj} (z : Nx W lv f scope cel own₀ m₀ s₀ loc own m h₁ tk₁) (ho : h₁.get? a = some o) (hk : ofKind .iter o) (hn : s₀.heap.get? a = none) (hd : f.h₀.get? a = none) (hw : ¬ OwnAt m own a)
    (hs : ∀ b ob, b ≠ a → h₁.get? b = some ob → h'.get? b = some ob) : Nx W lv f scope cel own₀ m₀ s₀ loc own m h' tk := by
  have c := z.ok
  have free : ∀ p : PV, p.free .iter = true := fun p => by
    induction p with
    | pair p q i j => exact Bool.and_eq_true_iff.mpr ⟨i, j⟩
    | trip p q r i j k => exact Bool.and_eq_true_iff.mpr ⟨i, Bool.and_eq_true_iff.mpr ⟨j, k⟩⟩
    | _ => rfl
  refine ⟨fun b ob e n1 n2 => hs b ob (fun q => by rw [q, hn] at e; cases e) (z.kp b ob e n1 n2), z.fresh, c.sc, fun y q e => ?_, c.ok, ⟨?_, fun b ob e => hs b ob (fun q => by rw [q, hd] at e; cases e) (c.fr.keep b ob e), c.fr.above⟩, fun y q e => ?_, fun y hy => ?_⟩
  · refine cps fun Z fin => ?_
    obtain ⟨kk, b, u, e1, ⟨oc, ec, dc⟩, e3⟩ := c.ce y q e
    refine fin ?_
    exact ⟨kk, b, u, e1, ⟨oc, hs _ _ (fun z => by rw [z, ho] at ec; cases ec; exact ofKind_notCell hk _ dc) ec, dc⟩, e3.but ho hk hs (free q)⟩
  · obtain ⟨od, es, ep, e, d, r⟩ := c.fr.ns
    exact ⟨od, es, ep, hs _ _ (fun q => by rw [q, ho] at e; cases e; exact ofKind_notDict hk _ _ d) e, d, r⟩
  · obtain ⟨v, e1, e2⟩ := c.lc y q e
    exact ⟨v, e1, e2.but ho hk hs (free q)⟩
  · refine cps fun Z fin => ?_
    obtain ⟨b, e1, e2, e4, ob, e3, e5⟩ := c.ow y hy
    refine fin ?_
    exact ⟨b, e1, e2, e4, ob, hs _ _ (fun q => hw ⟨y, hy, q ▸ e1⟩) e3, e5⟩
theorem Nx.turned {k : Kd} {x : Str} {a : Addr} {o : Obj} {p : PV} {h' : Heap} {tk : Nat} (c : StOk W lv f scope cel loc own m s) (hx : x ∈ own) (hm : m x = some (.ref a)) (ho : s.heap.get? a = some o) (hk : ofKind k o)
    (hs : ∀ b ob, b ≠ a → s.heap.get? b = some ob → h'.get? b = some ob) (ho' : Bare h' a) (hr : Rep [f.L] h' p (.ref a)) (once : onceIn loc = true) (hc : freeAll k cel = true) : Nx W lv f scope cel own m s (put x p (cutLoc k loc)) own m h' tk := by
  have hn0 : f.h₀.get? a = none := by
    refine cps fun Z fin => ?_
    obtain ⟨b, e, z, _⟩ := c.ow x hx
    refine fin ?_
    rw [hm] at e; cases e; exact z
  have hL : f.L ≠ a := fun q => by
    obtain ⟨od, es, ep, e, d⟩ := ns_data c.fr.ns
    rw [q, ho] at e; cases e
    exact ofKind_notDict hk _ _ d
  refine ⟨fun b ob e _ q => hs b ob (fun z => q ⟨x, hx, z ▸ hm⟩) e, fun b q => .inl q, c.sc, fun y q e => ?_, c.ok, ⟨?_, fun b ob e => hs b ob (fun z => ?_) (c.fr.keep b ob e), c.fr.above⟩, fun y q e => ?_, fun y hy => ?_⟩
  · refine cps fun Z fin => ?_
    obtain ⟨kk, b, u, e1, ⟨oc, ec, dc⟩, e3⟩ := c.ce y q e
    refine fin ?_
    exact ⟨kk, b, u, e1, ⟨oc, hs _ _ (fun z => by rw [z, ho] at ec; cases ec; exact ofKind_notCell hk _ dc) ec, dc⟩, e3.but ho hk hs (freeAll_at hc e)⟩
  · obtain ⟨od, es, ep, e, r⟩ := c.fr.ns
    exact ⟨od, es, ep, hs _ _ hL e, r⟩
  · rw [z, hn0] at e; cases e
  · rw [lookup_put] at e
    by_cases h1 : y = x
    · subst h1
      rw [if_pos rfl] at e
      cases e
      exact ⟨_, hm, hr⟩
    · rw [if_neg h1] at e
      exact Lc.cut ho hk hs (fun z hz => c.lc z.1 z.2 (mem_lookup once hz)) _ (lookup_mem e)
  · refine cps fun Z fin => ?_
    obtain ⟨b, e1, e2, e4, ob, e3, e5⟩ := c.ow y hy
    refine fin ?_
    refine ⟨b, e1, e2, e4, ?_⟩
    by_cases q : b = a
    · exact q ▸ ho'
    · exact ⟨ob, hs b ob q e3, e5⟩
end
end Nt

set_option Elab.async false
set_option maxRecDepth 100000
set_option linter.all false
open PySem PySem.W PyProof.Rows PySem.Calls
namespace Nt
set_option genInjectivity false
set_option genSizeOf false

inductive Out where
  | next (loc : Loc) (own : List Str)
  | ret (p : PV)
  | exc (C : Addr)
/-- an exception on its way at a frame; how it is told is left open -/
noncomputable abbrev Exc := Fm → Addr → Addr → Heap → Prop
structure Post (X : Exc) (W : Wd) (lv : Nat) (f : Fm) (scope : Scope) (cel : Loc) (own : List Str) (m : Str → Option Value) (s : Shared) (K : Out → Prop) (Q : Flow → Shared → Prop) (E : Value → Shared → Prop) : Prop where
  next : ∀ l o m' h' tk, K (.next l o) → Nx W lv f scope cel own m s l o m' h' tk → Q .next ⟨h', s.gens, s.drawn, tk, s.os⟩
  ret : ∀ p v m' h' tk, K (.ret p) → Fr f.h₀ f.L h' m' → Rep [] h' p v → Q (.ret v) ⟨h', s.gens, s.drawn, tk, s.os⟩
  exc : ∀ C, K (.exc C) → (∀ hd, PassesOwnAt (model W.prog W.w) (f.A.mark hd) f.A f.env E) ∧ ∀ e h' tk, X f C e h' → E (.ref e) ⟨h', s.gens, s.drawn, tk, s.os⟩
/-- what a row of statements may come to -/
noncomputable def Runs (X : Exc) (W : Wd) (lv : Nat) (scope : Scope) (cel loc : Loc) (own : List Str) (st : List Stmt) (K : Out → Prop) : Prop :=
  ∀ (f : Fm) (m : Str → Option Value) (s : Shared) (Q : Flow → Shared → Prop) (E : Value → Shared → Prop), StOk W lv f scope cel loc own m s → Post X W lv f scope cel own m s K Q E → wpR (model W.prog W.w) f.A (execs st f.env) Q E s
/-- one statement that ends in one state -/
noncomputable def Step (W : Wd) (lv : Nat) (scope : Scope) (cel loc : Loc) (own : List Str) (st : Stmt) (r : Loc × List Str) : Prop :=
  ∀ (f : Fm) (m : Str → Option Value) (s : Shared) (Q : Flow → Shared → Prop) (E : Value → Shared → Prop), StOk W lv f scope cel loc own m s →
    (∀ m' h' tk, Nx W lv f scope cel own m s r.1 r.2 m' h' tk → Q .next ⟨h', s.gens, s.drawn, tk, s.os⟩) → wpR (model W.prog W.w) f.A (exec st f.env) Q E s

section
variable {X : Exc} {W : Wd} {lv : Nat} {f : Fm} {scope : Scope} {cel loc loc' : Loc} {own own' : List Str} {s : Shared} {st : Stmt} {rest a b : List Stmt} {K K' : Out → Prop} {T : Tb} {m m' : Str → Option Value}
theorem Post.after {Q : Flow → Shared → Prop} {E : Value → Shared → Prop} {h' : Heap} {tk : Nat} (P : Post X W lv f scope cel own m s K Q E) (x : Nx W lv f scope cel own m s loc' own' m' h' tk) : Post X W lv f scope cel own' m' ⟨h', s.gens, s.drawn, tk, s.os⟩ K Q E :=
  ⟨fun l o m₂ h₂ tk₂ k y => P.next l o m₂ h₂ tk₂ k (x.trans y), P.ret, P.exc⟩
theorem Runs.sub (h : Runs X W lv scope cel loc' own' a K) (hl : subLoc loc' loc) (ho : ∀ x ∈ own', x ∈ own) : Runs X W lv scope cel loc own a K := fun f m s Q E C P =>
  h f m s Q E (C.sub hl ho) ⟨fun l o m' h' tk k x => P.next l o m' h' tk k (x.less ho), P.ret, P.exc⟩
theorem Runs.nil (h : K (.next loc own)) : Runs X W lv scope cel loc own [] K := fun f m s Q E C P => wpR_pure (P.next _ _ m s.heap s.toks h (Nx.self C))
theorem Runs.step {r : Loc × List Str} (h : Step W lv scope cel loc own st r) (g : Runs X W lv scope cel r.1 r.2 rest K) : Runs X W lv scope cel loc own (st :: rest) K :=
  fun f m s Q E C P => execsR_cons (h f m s _ E C fun m' h' tk x => g f m' _ Q E x.ok (P.after x))
theorem execs_append {env : Env} : ∀ a b : List Stmt, execs (a ++ b) env = (do match ← execs a env with | .next => execs b env | f => pure f)
  | [], b => rfl
  | st :: a, b => by
    rw [List.cons_append, execs_cons, execs_cons, execs_append a b]
    simp only [bind_assoc]
    congr 1
    funext x
    cases x <;> rfl
theorem Runs.ite {test : Expr} {pos : Pos} {n : Nat} {t : Bool} {c : Cond} (hT : TbOk W lv T) (e : (ev T n).2 ⟨scope.names, cel⟩ loc test = some (t, c)) (hc : c.holds)
    (h1 : t = true → Runs X W lv scope cel loc own (a ++ rest) K) (h2 : t = false → Runs X W lv scope cel loc own (b ++ rest) K) : Runs X W lv scope cel loc own (.If test a b pos :: rest) K := by
  intro f m s Q E C P
  rw [execs_cons, exec_If]
  simp only [bind_assoc]
  refine wpR_bind (wpR_standAt (wpR_bind ((ev_ok hT n).2 _ _ test t c e hc f f.env s _ E C.env fun h' tk k => ?_)))
  have x := Nx.of_stays (tk := tk) C k
  cases t with
  | true =>
    have := h1 rfl f m _ Q E x.ok (P.after x)
    rw [execs_append] at this
    exact this
  | false =>
    have := h2 rfl f m _ Q E x.ok (P.after x)
    rw [execs_append] at this
    exact this
theorem Runs.ret {e : Expr} {pos : Pos} {n : Nat} {p : PV} {c : Cond} (hT : TbOk W lv T) (e1 : (ev T n).1 ⟨scope.names, cel⟩ loc e = some (p, c)) (hc : c.holds) (hK : K (.ret p)) : Runs X W lv scope cel loc own (.Return (some e) pos :: rest) K := by
  intro f m s Q E C P
  rw [execs_cons, exec_Return_some]
  simp only [bind_assoc]
  refine wpR_bind (wpR_standAt (wpR_bind ((ev_ok hT n).1 _ _ e p c e1 hc f f.env s _ E C.env fun v h' tk k r => ?_)))
  have x := Nx.of_stays (tk := tk) C k
  exact wpR_bind (wpR_pure (wpR_pure (P.ret _ _ _ _ _ hK x.ok.fr r)))

/-- a while, by what holds ahead of each turn -/
theorem Runs.while_ {test : Expr} {body : List Stmt} {pos : Pos} {n : Nat} (hT : TbOk W lv T) (I : Nat → Loc → List Str → Prop) (k₀ : Nat) (h0 : I k₀ loc own)
    (turn : ∀ k l o, I k l o → ∃ t c, (ev T n).2 ⟨scope.names, cel⟩ l test = some (t, c) ∧ c.holds ∧
      (t = true → Runs X W lv scope cel l o body fun r => match r with
        | .next l' o' => ∃ k', k' < k ∧ I k' l' o'
        | .ret p => K (.ret p)
        | .exc C => K (.exc C)) ∧ (t = false → Runs X W lv scope cel l o rest K)) : Runs X W lv scope cel loc own (.While test body [] pos :: rest) K := by
  intro f m s Q E C P
  refine execsR_cons (execR_While (codeR_whileLoop (I := fun k s' => ∃ l o m' h' tk, s' = ⟨h', s.gens, s.drawn, tk, s.os⟩ ∧ I k l o ∧ Nx W lv f scope cel own m s l o m' h' tk) ?_ k₀ ⟨loc, own, m, s.heap, s.toks, rfl, h0, Nx.self C⟩))
  rintro k s' ⟨l, o, m', h', tk, rfl, hI, x⟩
  obtain ⟨t, c, e, hc, h1, h2⟩ := turn k l o hI
  refine (ev_ok hT n).2 _ _ test t c e hc f f.env _ _ _ x.ok.env fun h₂ tk₂ k₂ => ?_
  have y := x.trans (Nx.of_stays (tk := tk₂) x.ok k₂)
  cases t with
  | true =>
    simp only [if_true]
    refine h1 rfl f m' _ _ _ y.ok ⟨fun l₃ o₃ m₃ h₃ tk₃ ⟨k', hk', hI'⟩ z => ⟨k', hk', l₃, o₃, m₃, h₃, tk₃, rfl, hI', y.trans z⟩, fun p v m₃ h₃ tk₃ hk hf hr => P.ret p v m₃ h₃ tk₃ hk hf hr, fun C hk => ⟨fun hd => PassesOwnAt.looking, fun e h₃ tk₃ hx => (P.exc C hk).1 none _ _ ((P.exc C hk).2 e h₃ tk₃ hx)⟩⟩
  | false =>
    simp only [Bool.false_eq_true, if_false]
    exact wpR_pure (h2 rfl f m' _ Q E y.ok (P.after y))
end
end Nt

set_option Elab.async false
set_option maxRecDepth 100000
set_option linter.all false
open PySem PySem.W PyProof.Rows PySem.Calls
namespace Nt
set_option genInjectivity false
set_option genSizeOf false

theorem none_back {h h' : Heap} (k : h.StaysIn h') {a : Addr} (e : h'.get? a = none) : h.get? a = none := by
  cases q : h.get? a with
  | none => rfl
  | some o => rw [k a o q] at e; cases e
/-- a source that is no list -/
noncomputable def noListSrc (p : PV) : Bool := match p with
  | .il _ | .rl _ | .sl _ => false
  | _ => true

/-- a row of statements in some frames -/
noncomputable def RunsP (Pf : Fm → Prop) (X : Exc) (W : Wd) (lv : Nat) (scope : Scope) (cel loc : Loc) (own : List Str) (st : List Stmt) (K : Out → Prop) : Prop :=
  ∀ (f : Fm) (m : Str → Option Value) (s : Shared) (Q : Flow → Shared → Prop) (E : Value → Shared → Prop), Pf f → StOk W lv f scope cel loc own m s → Post X W lv f scope cel own m s K Q E → wpR (model W.prog W.w) f.A (execs st f.env) Q E s
section
variable {Pf : Fm → Prop} {X : Exc} {W : Wd} {lv : Nat} {f : Fm} {scope : Scope} {cel loc loc' : Loc} {own own' : List Str} {s : Shared} {st : Stmt} {rest a b : List Stmt} {K K' : Out → Prop} {T : Tb} {m m' : Str → Option Value}
theorem no_list {p : PV} {v : Value} {h : Heap} {b : Addr} {items : Array Value} (hn : noListSrc p = true) (hr : Rep [] h p v) (e : v = .ref b) (hl : h.IsList b items) : False := by
  obtain ⟨o, ho, hc, n, hd⟩ := hl
  cases p with
  | il | rl | sl => cases hn
  | none => cases hr; cases e
  | bool => cases hr; cases e
  | int => obtain ⟨t, rfl⟩ := hr; cases e
  | str => obtain ⟨t, rfl⟩ := hr; cases e
  | bytes => obtain ⟨t, rfl⟩ := hr; cases e
  | pair => obtain ⟨a, x, y, rfl, _, ⟨o', h1, h2, _⟩, _⟩ := hr; cases e; rw [ho] at h1; cases h1; rw [hc] at h2; revert h2; decide
  | trip => obtain ⟨a, x, y, z, rfl, _, ⟨o', h1, h2, _⟩, _⟩ := hr; cases e; rw [ho] at h1; cases h1; rw [hc] at h2; revert h2; decide
  | ba => obtain ⟨a, rfl, _, h1⟩ := hr; cases e; rw [ho] at h1; cases h1; cases hd
  | rng => obtain ⟨a, t, u, w, rfl, _, h1⟩ := hr; cases e; have h2 := ho.symm.trans h1; cases h2; cases hd
  | codec => obtain ⟨a, dx, rfl, _, _, h1, _⟩ := hr; cases e; rw [ho] at h1; cases h1; cases hd
/-- a for, by what holds ahead of each turn -/
theorem RunsP.for_ {x : Str} {px pos : Pos} {it : Expr} {body : List Stmt} {n : Nat} {p : PV} {qd : List PV × PV} {c c₂ : Cond} (hT : TbOk W lv T) (e1 : (ev T n).1 ⟨scope.names, cel⟩ loc it = some (p, c)) (hc : c.holds) (e2 : srcPV p = some (qd, c₂)) (hc₂ : c₂.holds)
    (hx : scope.names.lookup x = some .local) (hset : isSet it = false) (hl : own = [] ∨ noListSrc p = true) (I : Nat → Loc → List Str → Prop) (h0 : I 0 loc own)
    (turn : ∀ i q l o, qd.1[i]? = some q → I i l o → RunsP Pf X W lv scope cel (put x q l) (without x o) body fun r => match r with
        | .next l' o' => I (i + 1) l' o'
        | .ret p => K (.ret p)
        | .exc C => K (.exc C)) (done : ∀ l o, I qd.1.length l o → RunsP Pf X W lv scope cel l o rest K) : RunsP Pf X W lv scope cel loc own (.For (.Name x px) it body [] pos :: rest) K := by
  intro f m s Q E hout C P
  refine execsR_cons (execR_For ((ev_ok hT n).1 _ _ it p c e1 hc f f.env s _ _ C.env fun v h1 tk1 k1 r1 => ?_) (fun _ => set_plain hset))
  refine iter_ok (A := f.A) rfl r1 _ _ e2 hc₂ _ _ fun J fp wr P' St h2 tk2 W' hP hst hfp hw hk2 hnd hfw hwr => ?_
  subst hwr
  have sJ : s.heap.get? J = none := none_back k1 (hw J (List.mem_singleton_self _))
  have dJ : f.h₀.get? J = none := none_back (fun a o e => C.fr.keep a o e) sJ
  have x0 : Nx W lv f scope cel own m s loc own m h2 tk2 := Nx.of_stays C (stays_trans k1 hk2)
  have notOwn : ∀ b ∈ fp, ¬ OwnAt m own b := fun b hb ho => by
    obtain ⟨y, hy, e⟩ := ho
    obtain ⟨a, e', _, _, ob, e3, _⟩ := C.ow y hy
    rw [e] at e'; cases e'
    rcases hfw b hb with rfl | ⟨e4, items, e5⟩
    · rw [sJ] at e3; cases e3
    · rcases hl with rfl | hl
      · cases hy
      · exact no_list hl r1 e4 e5
  refine codeR_forLoop (fun k s' => ∃ i l o m' h' tk, s' = ⟨h', s.gens, s.drawn, tk, s.os⟩ ∧ k = qd.1.length + 1 - i ∧ i ≤ qd.1.length ∧ I i l o ∧ Nx W lv f scope cel own m s l o m' h' tk ∧ St i h' ∧ ∀ b ∈ fp, ¬ OwnAt m' o b) ?_ (qd.1.length + 1)
    ⟨0, loc, own, m, h2, tk2, rfl, rfl, Nat.zero_le _, h0, x0, hst, notOwn⟩ (fun _ => rfl)
  rintro k s' ⟨i, l, o, m', h', tk, rfl, rfl, hi, hI, z, hst', hno⟩
  have hJ := hnd i h' hst'
  obtain ⟨⟨oJ, vsJ, eJ, dJ', cJ⟩, _⟩ := hJ
  have kJ : ofKind .iter oJ := ⟨⟨vsJ, dJ'⟩, cJ⟩
  have hJo : J ∈ fp := W'.sub _ (List.mem_singleton_self _)
  by_cases hlt : i < qd.1.length
  · refine W'.item i _ _ _ hlt hst' fun v' h₃ tk₃ hPv hst₃ hk₃ => ?_
    obtain ⟨q, hq, hqv⟩ := hP i v' hPv
    have z3 : Nx W lv f scope cel own m s l o m' h₃ tk₃ := z.moved eJ kJ sJ dJ (hno J hJo) fun b ob n e => hk₃ b ob (fun h => n (List.mem_singleton.mp h)) e
    refine wpAny_assign_Name (z3.storeA (p := q) (hqv _ _) hx (keepOwn) fun m4 h4 tk4 z4 k4 hm4 => ?_)
    have st4 : St (i + 1) h4 := W'.frame _ _ _ hst₃ fun b hb o' e => k4 b o' (fun hL => by
      obtain ⟨ob, e', nd⟩ := (hnd _ _ hst₃).2 b hb
      obtain ⟨od, es, ep, e5, d5⟩ := ns_data z3.ok.fr.ns
      rw [hL] at e'
      have := e'.symm.trans e5
      cases this
      exact nd _ _ d5) e
    have no4 : ∀ b ∈ fp, ¬ OwnAt m4 (without x o) b := fun b hb ⟨y, hy, e⟩ => by
      obtain ⟨n1, n2⟩ := mem_without hy
      rw [hm4, if_neg n1] at e
      exact hno b hb ⟨y, n2, e⟩
    refine turn i q l o hq hI f m4 _ _ _ hout z4.ok ⟨fun l₅ o₅ m₅ h₅ tk₅ hI' y => ?_, fun p v m₃ h₃ tk₃ hk hf hr => P.ret p v m₃ h₃ tk₃ hk hf hr, fun C hk => ⟨fun hd => PassesOwnAt.looking, fun e h₃ tk₃ hx => (P.exc C hk).1 none _ _ ((P.exc C hk).2 e h₃ tk₃ hx)⟩⟩
    refine ⟨qd.1.length + 1 - (i + 1), by lia, i + 1, l₅, o₅, m₅, h₅, tk₅, rfl, rfl, hlt, hI', z4.trans y, ?_, fun b hb ho => ?_⟩
    · refine W'.frame _ _ _ st4 fun b hb o' e => y.kp b o' e (fun hL => ?_) (no4 b hb)
      obtain ⟨ob, e', nd⟩ := (hnd _ _ st4).2 b hb
      obtain ⟨od, es, ep, e5, d5⟩ := ns_data z4.ok.fr.ns
      rw [hL] at e'
      have := e'.symm.trans e5
      cases this
      exact nd _ _ d5
    · rcases y.fresh b ho with h | h
      · exact no4 b hb h
      · obtain ⟨ob, e', _⟩ := (hnd _ _ st4).2 b hb
        have := h.symm.trans e'
        cases this
  · have hin : i = qd.1.length := by lia
    subst hin
    refine W'.done _ _ _ hst' fun h₃ tk₃ hk₃ => ?_
    have z3 : Nx W lv f scope cel own m s l o m' h₃ tk₃ := z.moved eJ kJ sJ dJ (hno J hJo) fun b ob n e => hk₃ b ob (fun h => n (List.mem_singleton.mp h)) e
    exact wpR_pure (done l o hI f m' _ Q E hout z3.ok (P.after z3))
theorem Runs.for_ {x : Str} {px pos : Pos} {it : Expr} {body : List Stmt} {n : Nat} {p : PV} {qd : List PV × PV} {c c₂ : Cond} (hT : TbOk W lv T) (e1 : (ev T n).1 ⟨scope.names, cel⟩ loc it = some (p, c)) (hc : c.holds) (e2 : srcPV p = some (qd, c₂)) (hc₂ : c₂.holds)
    (hx : scope.names.lookup x = some .local) (hset : isSet it = false) (hl : own = [] ∨ noListSrc p = true) (I : Nat → Loc → List Str → Prop) (h0 : I 0 loc own)
    (turn : ∀ i q l o, qd.1[i]? = some q → I i l o → Runs X W lv scope cel (put x q l) (without x o) body fun r => match r with
        | .next l' o' => I (i + 1) l' o'
        | .ret p => K (.ret p)
        | .exc C => K (.exc C)) (done : ∀ l o, I qd.1.length l o → Runs X W lv scope cel l o rest K) : Runs X W lv scope cel loc own (.For (.Name x px) it body [] pos :: rest) K :=
  fun f m s Q E C P => RunsP.for_ (Pf := fun _ => True) hT e1 hc e2 hc₂ hx hset hl I h0 (fun i q l o hq hI f m s Q E _ C P => turn i q l o hq hI f m s Q E C P) (fun l o hI f m s Q E _ C P => done l o hI f m s Q E C P) f m s Q E trivial C P
end
end Nt

set_option Elab.async false
set_option maxRecDepth 100000
set_option linter.all false
open PySem PySem.W PyProof.Rows PySem.Calls
namespace Nt
set_option genInjectivity false
set_option genSizeOf false

noncomputable def isComp : Expr → Bool
  | .ListComp .. | .SetComp .. | .DictComp .. => true
  | _ => false
noncomputable def isLoc (scope : Scope) (x : Str) : Bool := match scope.names.lookup x with
  | some .local => true
  | _ => false
theorem isLoc_eq {scope : Scope} {x : Str} (h : isLoc scope x = true) : scope.names.lookup x = some .local := by
  delta isLoc at h
  cases e : scope.names.lookup x with
  | none => rw [e] at h; cases h
  | some k =>
    rw [e] at h
    cases k with
    | «local» => rfl
    | _ => cases h
theorem swaps_plain {value : Expr} {t : Option Expr} {l : Nat} {env : Env} (h : isComp value = false) : swapsWith value t l env = pure false := by
  cases value <;> first | rfl | (cases h; done)
noncomputable abbrev St2 := (Loc × List Str) × Cond
/-- the parts of a tuple -/
noncomputable def partsPV : PV → Option (List PV)
  | .pair p q => some [p, q]
  | .trip p q r => some [p, q, r]
  | _ => none
noncomputable def tnames : List Expr → Option (List Str)
  | [] => some []
  | .Name x _ :: r => with_ (tnames r) fun xs => some (x :: xs)
  | _ => none
noncomputable def allPlain : List PV → Bool
  | [] => true
  | p :: ps => p.plain && allPlain ps
noncomputable def allLoc (scope : Scope) : List Str → Bool
  | [] => true
  | x :: xs => isLoc scope x && allLoc scope xs
noncomputable def putAll : List Str → List PV → Loc → Loc
  | x :: xs, p :: ps, l => putAll xs ps (put x p l)
  | _, _, l => l
noncomputable def withoutAll : List Str → List Str → List Str
  | [], o => o
  | x :: xs, o => withoutAll xs (without x o)
noncomputable def sameLen {α β : Type} : List α → List β → Bool
  | [], [] => true
  | _ :: a, _ :: b => sameLen a b
  | _, _ => false
theorem sameLen_eq {α β : Type} : ∀ {a : List α} {b : List β}, sameLen a b = true → a.length = b.length
  | [], [], _ => rfl
  | _ :: a, _ :: b, h => congrArg (· + 1) (sameLen_eq (a := a) (b := b) h)
/-- does a display's assignment store from behind -/
noncomputable def swp (names : List (Str × NameKind)) (ts : List Expr) : Expr → Option (Option (List Str))
  | .Tuple vs _ _ =>
    if (!(ts.length == 2 || ts.length == 3) || vs.length != ts.length) = true then some none else
    if (vs.any fun | .Starred .. => true | _ => false) = true then some none else
    let ns := ts.filterMap fun
      | .Name id pos => if (names.lookup id == some .local && pos.line == (ts.head?.map (·.pos.line)).getD 0) = true then some id else none
      | _ => none
    if (ns.length != ts.length || ns.eraseDups.length != ns.length) = true then some none else
    if vs.all (foldedForSure 8) = true then some none else
    if vs.all (constantsAlone 8) = true then none else some (some ns)
  | .List _ _ => none
  | _ => some none

section
variable {X : Exc} {W : Wd} {lv : Nat} {f : Fm} {scope : Scope} {cel loc loc' : Loc} {own own' : List Str} {s : Shared} {st : Stmt} {rest a b : List Stmt} {K K' : Out → Prop} {T : Tb} {m m' : Str → Option Value} {n : Nat}
theorem some_use {α : Type} {a b : α} (h : some a = some b) : a = b := Option.some.inj h
theorem swp_ok {ts : List Expr} {k : Nat} {tp : Pos} {e : Expr} {r : Option (List Str)} (c : StOk W lv f scope cel loc own m s) (h : swp scope.names ts e = some r) : swappedStores [.Tuple ts k tp] e f.env = pure r := by
  have hb : f.env.blockKind = .function := by
    show (if f.cs.kind.isAnnotationScope then ScopeKind.function else f.cs.kind) = _
    rw [c.ok.k]; rfl
  have hz : ∀ z : Bool, (z || f.env.blockKind != .function) = z := fun z => by rw [hb, bne_self_eq_false, Bool.or_false]
  rw [← c.sc] at h
  clear c hb
  cases e with
  | Tuple vs _ _ =>
    dsimp only [swp] at h
    split at h
    · rename_i h1; exact (if_pos ((hz _).trans h1)).trans (congrArg pure (some_use h))
    · rename_i h1
      refine (if_neg fun q => h1 ((hz _).symm.trans q)).trans ?_
      clear hz h1
      split at h
      · rename_i h2; exact (if_pos h2).trans (congrArg pure (some_use h))
      · rename_i h2
        refine (if_neg h2).trans ?_
        clear h2
        split at h
        · rename_i h3; exact (if_pos h3).trans (congrArg pure (some_use h))
        · rename_i h3
          refine (if_neg h3).trans ?_
          clear h3
          split at h
          · rename_i h4; exact (if_pos h4).trans (congrArg pure (some_use h))
          · rename_i h4
            refine (if_neg h4).trans ?_
            clear h4
            split at h
            · exact no_ h
            · rename_i h5; exact (if_neg h5).trans (congrArg pure (some_use h))
  | List => exact no_ h
  | _ => exact congrArg pure (some_use h)
theorem loc_kind {x : Str} (c : StOk W lv f scope cel loc own m s) (hx : isLoc scope x = true) : f.env.kindOf x = some .local := by show f.cs.names.lookup x = _; rw [c.sc]; exact isLoc_eq hx
/-- a plain value under a name -/
theorem assign1_ok (hT : TbOk W lv T) {x : Str} {xp pos : Pos} {e : Expr} : Ok (onlyIf (isLoc scope x && !isComp e) (seq ((ev T n).1 ⟨scope.names, cel⟩ loc e) fun p => onlyIf (p.plain || !isNil loc) (some ((put x p loc, without x own), none))))
    fun r => Step W lv scope cel loc own (.Assign [.Name x xp] e pos) r := by
  refine .onlyIf fun h => .seq ((ev_ok hT n).1 _ _ e) fun p hp => .onlyIf fun h2 => .some fun _ => ?_
  obtain ⟨h0, h1⟩ := Bool.and_eq_true_iff.mp h
  intro f m s Q E C g
  rw [exec_Assign_Name (hs := swaps_plain (by simpa using h1))]
  refine wpR_bind (wpR_standAt (wpR_bind (hp f f.env s _ E C.env fun v h' tk k r => wpR_bind (wpR_standAt (wpR_bindA (wpAny_bindName ?_))))))
  have z : Nx W lv f scope cel own m s loc own m h' tk := Nx.of_stays C k
  exact z.store h2 r (isLoc_eq h0) keepOwn fun m' h2 tk2 y _ => wpR_pure (g m' h2 tk2 y)
theorem list_rep {qs : List PV} : Ok (listPV qs) fun p => ∀ h vs, Reps [] h qs vs → vs.length ≤ 16777216 ∧ Rep [] (h.push { cls := .type "list", data := .seq vs.toArray }) p (.ref h.objs.size) ∧ p.plain = true := by
  refine .alt (.seq (ints_ok qs) fun l hl => .some fun hc h vs r => ?_) (.seq (byts_ok qs) fun l hl => .some fun hc h vs r => ?_)
  · have := hl _ _ r
    exact ⟨by rw [this.length]; exact hc, ⟨_, _, rfl, List.not_mem_nil, isList_new _ _, this⟩, rfl⟩
  · have := hl _ _ r
    exact ⟨by rw [this.length]; exact hc, ⟨_, _, rfl, List.not_mem_nil, isList_new _ _, this⟩, rfl⟩
/-- a new object is none of a frame's -/
theorem new_own {h' : Heap} {o : Obj} (C : StOk W lv f scope cel loc own m s) (k : s.heap.StaysIn h') (hd : o.dict = none) (hs : o.slots = #[]) (hf : o.isFreed = false) :
    f.h₀.get? h'.objs.size = none ∧ (Bare (h'.push o) h'.objs.size ∧ h'.objs.size ≠ f.L) ∧ (OwnAt m own h'.objs.size ∨ s.heap.get? h'.objs.size = none) := by
  refine ⟨none_back (fun a o e => k a o (C.fr.keep a o e)) (new_none h'), ⟨⟨o, Heap.get?_push_size _ hf, hd, hs⟩, fun q => ?_⟩, .inr (none_back k (new_none h'))⟩
  obtain ⟨o, _, _, e', _⟩ := ns_data C.fr.ns
  have := k _ _ e'
  rw [← q, new_none] at this
  cases this
/-- a new list under a name: the frame's own -/
theorem assignL_ok (hT : TbOk W lv T) {x : Str} {xp pos lp : Pos} {es : List Expr} : Ok (onlyIf (isLoc scope x) (seq (evs (ev T n).1 ⟨scope.names, cel⟩ loc es) fun ps => seq (listPV ps) fun p => some ((put x p loc, x :: without x own), none)))
    fun r => Step W lv scope cel loc own (.Assign [.Name x xp] (.List es lp) pos) r := by
  refine .onlyIf fun h0 => .seq (evs_ok (ev_ok hT n).1 es) fun qs hqs => .seq list_rep fun p hp => .some fun _ => ?_
  intro f m s Q E C g
  rw [exec_Assign_Name (hs := swaps_plain rfl)]
  refine wpR_bind (wpR_standAt (wpR_bind (listR (hqs f f.env s _ _ E C.env fun vs h' tk k r => ?_))))
  obtain ⟨h1, h2, h3⟩ := hp _ _ r
  refine wpR_of (wpAny_newObj_type ?_ (by show vs.toArray.size ≤ sizeLine; rw [List.size_toArray, sizeLine_eq]; exact h1))
  have z : Nx W lv f scope cel own m s loc own m (h'.push { cls := .type "list", data := .seq vs.toArray }) tk := Nx.of_stays C (stays_trans k (stays_push _ _))
  refine wpR_bind (wpR_standAt (wpR_bindA (wpAny_bindName (z.store (by rw [h3]; rfl) h2 (isLoc_eq h0) (fun y hy => ?_) fun m' h2 tk2 y _ => wpR_pure (g m' h2 tk2 y)))))
  rcases List.mem_cons.mp hy with rfl | hy
  · exact .inr ⟨rfl, _, rfl, new_own C k rfl rfl rfl⟩
  · exact .inl (mem_without hy)
/-- a comprehension under a name -/
theorem assignC_ok (hT : TbOk W lv T) {x : Str} {xp pos cp : Pos} {elt ta it : Expr} {ifs : List Expr} {k : Int} {sc2 : Scope} : Ok (onlyIf (isLoc scope x) (seq (evComp (ev T n).1 (ev T n).2 ⟨scope.names, cel⟩ loc elt sc2 ta it ifs k) fun p => onlyIf p.plain (some ((put x p loc, without x own), none))))
    fun r => Step W lv scope cel loc own (.Assign [.Name x xp] (.ListComp elt [⟨ta, it, ifs, k⟩] sc2 cp) pos) r := by
  refine .onlyIf fun h0 => .seq (comp_ok (ev_ok hT n).1 (ev_ok hT n).2 (elt := elt) (ta := ta) (it := it) (ifs := ifs) (k := k) (scope := sc2) (pos := cp)) fun p hp => .onlyIf fun h2 => .some fun _ => ?_
  intro f m s Q E C g
  have sw : ∃ b, swapsWith (.ListComp elt [⟨ta, it, ifs, k⟩] sc2 cp) (some (.Name x xp)) pos.line f.env = pure b := ⟨_, rfl⟩
  obtain ⟨b, hb⟩ := sw
  cases b with
  | true =>
    rw [exec_Assign_Name_used (hs := hb)]
    refine wpR_bind (wpR_standAt (wpR_bind ?_))
    show wpR _ _ (do let _ ← comprehension (.ListComp elt [⟨ta, it, ifs, k⟩] sc2 cp) sc2 f.env (firstIterPos [⟨ta, it, ifs, k⟩] cp) (newList []) (firstAsync [⟨ta, it, ifs, k⟩]) (firstIter [⟨ta, it, ifs, k⟩] f.env) (some (assign (.Name x xp) f.env))) _ E s
    refine wpR_bind (hp f f.env s _ _ E C.env fun D C' h' tk mC hC hD hDC hk hr hbare hn => ?_)
    show wpAny _ _ (assign (.Name x xp) f.env (.ref D)) _ E _
    have z : Nx W lv f scope cel own m s loc own m h' tk := Nx.of_stays C hk
    refine wpAny_assign_Name (wpAny_storeName_local (loc_kind C h0) z.ok.fr.ns (fun h2' hn' hs' => ?_) (by show (f.cs.kind == .class || (f.cs.kind == .module && f.L != mainGlobals)) = false; rw [C.ok.k]; rfl))
    have hCL : C' ≠ f.L := fun q => by
      obtain ⟨o, _, _, e', _⟩ := ns_data C.fr.ns
      rw [← q, hC] at e'; cases e'
    refine ⟨mC, ?_, fun h3 hs => ?_⟩
    · obtain ⟨o, es, ep, e', r'⟩ := hn
      exact ⟨o, es, ep, hs'.extBut _ _ hCL e', r'⟩
    · have y2 : Nx W lv f scope cel own m s (put x p loc) (without x own) _ h3 (tk + 1) := Nx.stored (Nx.self C) (v := .ref D) ?_ (fun b ob nb e => hs.extBut _ _ (fun q => by rw [q, hC] at e; cases e) (hs'.extBut _ _ nb (hk _ _ e))) ?_ keepOwn
      · exact wpR_pure (wpR_pure (g _ h3 (tk + 1) y2))
      · obtain ⟨o, es, ep, e', r'⟩ := hn'
        exact ⟨o, es, ep, hs.extBut _ _ (Ne.symm hCL) e', r'⟩
      · have r1 : Rep [f.L, C'] h' p (.ref D) := Rep.apart z.ok.fr.ns (.inl h2) hr
        have r2 : Rep [f.L, C'] h3 p (.ref D) := (r1.same fun a o na e => hs'.extBut _ _ (fun q => na (q ▸ List.mem_cons_self)) e).same fun a o na e => hs.extBut _ _ (fun q => na (q ▸ List.mem_cons_of_mem _ (List.mem_singleton_self _))) e
        exact r2.less fun a ha => List.mem_cons.mpr (.inl (List.mem_singleton.mp ha))
  | false =>
    rw [exec_Assign_Name (hs := hb)]
    refine wpR_bind (wpR_standAt (wpR_bind ?_))
    rw [eval_ListComp]
    refine hp f f.env s none _ E C.env fun D C' h₁ tk mC hC hD hDC hk hr _ hn => ⟨mC, hn, fun h' hs => wpR_bind (wpR_standAt (wpR_bindA (wpAny_bindName ?_)))⟩
    have k : s.heap.StaysIn h' := fun b o e => hs.extBut b o (by rintro rfl; rw [hC] at e; cases e) (hk b o e)
    have r : Rep [] h' p (.ref D) := hr.turn (H := [C']) (H' := []) (fun a o n e => hs.extBut a o (fun q => n (q ▸ List.mem_singleton_self _)) e) (fun _ _ _ _ => List.not_mem_nil)
    have z : Nx W lv f scope cel own m s loc own m h' tk := Nx.of_stays C k
    exact z.store (by rw [h2]; rfl) r (isLoc_eq h0) keepOwn fun m' h2 tk2 y _ => wpR_pure (g m' h2 tk2 y)

theorem parts_rep {p : PV} {ps : List PV} {h : Heap} {v : Value} (e : partsPV p = some ps) (r : Rep [] h p v) : ∃ a vs, v = .ref a ∧ IsTup h a (List.toArray vs) ∧ Reps [] h ps vs := by
  cases p <;> first | (cases e; done) | skip
  · cases e
    obtain ⟨a, x, y, rfl, _, t, r1, r2⟩ := r
    exact ⟨a, [x, y], rfl, t, x, [y], rfl, r1, y, [], rfl, r2, rfl⟩
  · cases e
    obtain ⟨a, x, y, z, rfl, _, t, r1, r2, r3⟩ := r
    exact ⟨a, [x, y, z], rfl, t, x, [y, z], rfl, r1, y, [z], rfl, r2, z, [], rfl, r3, rfl⟩
theorem Reps.length {H : List Addr} {h : Heap} : ∀ {ps : List PV} {vs : List Value}, Reps H h ps vs → vs.length = ps.length
  | [], _, rfl => rfl
  | _ :: _, _, ⟨_, _, rfl, _, r⟩ => congrArg (· + 1) r.length
theorem Reps.apart {h : Heap} {L : Addr} (n : h.Ns L m) : ∀ {ps : List PV} {vs : List Value}, (allPlain ps = true ∨ ∃ x y, m x = some y) → Reps [] h ps vs → Reps [L] h ps vs
  | [], _, _, r => r
  | _ :: _, _, hp, ⟨v, r, e, r1, r2⟩ => ⟨v, r, e, r1.apart n (hp.imp (fun z => (Bool.and_eq_true_iff.mp z).1) id), r2.apart n (hp.imp (fun z => (Bool.and_eq_true_iff.mp z).2) id)⟩
/-- these actions store these names -/
noncomputable def Stores (env : Env) : List Str → List (Value → Sem Unit) → Prop
  | [], [] => True
  | x :: xs, g :: gs => (∀ (M : Model) (A : Around) (E : Value → Shared → Prop) (v : Value) (Q : Unit → Shared → Prop) (s : Shared), wpAny M A (storeName env x v) Q E s → wpAny M A (g v) Q E s) ∧ Stores env xs gs
  | _, _ => False
theorem stores_bind {env : Env} : ∀ xs : List Str, Stores env xs (xs.map fun n => bindName env n)
  | [] => trivial
  | x :: xs => ⟨fun M A E v Q s h => wpAny_bindName h, stores_bind xs⟩
theorem tnames_cons {t : Expr} {ts : List Expr} {xs : List Str} (e : tnames (t :: ts) = some xs) : ∃ x p ys, t = .Name x p ∧ tnames ts = some ys ∧ xs = x :: ys := by
  cases t with
  | Name x p =>
    replace e : with_ (tnames ts) (fun xs => some (x :: xs)) = some xs := e
    cases h : tnames ts with
    | none => rw [h] at e; exact no_ e
    | some ys => rw [h] at e; cases e; exact ⟨x, p, ys, rfl, rfl, rfl⟩
  | _ => exact no_ e
theorem stores_each {env : Env} : ∀ {ts : List Expr} {xs : List Str}, tnames ts = some xs → Stores env xs ((assignEach ts env).map (·.2))
  | [], xs, e => by cases e; exact trivial
  | t :: ts, xs, e => by
    obtain ⟨x, p, ys, rfl, e2, rfl⟩ := tnames_cons e
    exact ⟨fun M A E v Q s h => PyProof.Rows.assign_Name h, stores_each e2⟩
theorem store_all {M : Model} {A : Around} {E : Value → Shared → Prop} {own₀ : List Str} {m₀ : Str → Option Value} {s₀ : Shared} : ∀ {xs : List Str} {ps : List PV} {vs : List Value} {fs : List (Value → Sem Unit)} {loc : Loc} {own : List Str} {m : Str → Option Value} {h₁ : Heap} {tk₁ : Nat} {Q : Unit → Shared → Prop},
    Nx W lv f scope cel own₀ m₀ s₀ loc own m h₁ tk₁ → allLoc scope xs = true → Reps [f.L] h₁ ps vs → sameLen xs ps = true → Stores f.env xs fs →
    (∀ m' h' tk, Nx W lv f scope cel own₀ m₀ s₀ (putAll xs ps loc) (withoutAll xs own) m' h' tk → Q () ⟨h', s₀.gens, s₀.drawn, tk, s₀.os⟩) → wpAny M A (assignInOrder fs vs) Q E ⟨h₁, s₀.gens, s₀.drawn, tk₁, s₀.os⟩
  | [], [], _, [], _, _, _, _, _, _, z, _, rfl, _, _, g => wpAny_pure (g _ _ _ z)
  | x :: xs, p :: ps, _, g1 :: gs, loc, own, m, h₁, tk₁, Q, z, hl, ⟨v, r, rfl, r1, r2⟩, hn, ⟨h1, h2⟩, g => by
    obtain ⟨l1, l2⟩ := Bool.and_eq_true_iff.mp hl
    refine wpAny_bind (wpAny_holding (h1 _ _ _ _ _ _ (z.storeA r1 (isLoc_eq l1) keepOwn fun m' h' tk y k _ => ?_)))
    refine store_all y l2 (r2.turn (fun a o n e => k a o (fun q => n (q ▸ List.mem_singleton_self _)) e) fun _ _ n _ => n) hn h2 g
  | [], _ :: _, _, _, _, _, _, _, _, _, _, _, _, hn, _, _ => nomatch hn
  | _ :: _, [], _, _, _, _, _, _, _, _, _, _, _, hn, _, _ => nomatch hn
  | [], [], _, _ :: _, _, _, _, _, _, _, _, _, _, _, hs, _ => nomatch hs
  | _ :: _, _ :: _, _, [], _, _, _, _, _, _, _, _, _, _, hs, _ => nomatch hs
theorem Reps.rev {H : List Addr} {h : Heap} {ps : List PV} {vs : List Value} (r : Reps H h ps vs) : Reps H h ps.reverse vs.reverse := by
  have app : ∀ {ps qs : List PV} {vs us : List Value}, Reps H h ps vs → Reps H h qs us → Reps H h (ps ++ qs) (vs ++ us) := by
    intro ps
    induction ps with
    | nil => rintro qs _ us rfl k; exact k
    | cons p ps ih => rintro qs _ us ⟨v, r, rfl, r1, r2⟩ k; exact ⟨v, _, rfl, r1, ih r2 k⟩
  induction ps generalizing vs with
  | nil => cases (show vs = [] from r); exact rfl
  | cons p ps ih =>
    obtain ⟨v, us, rfl, r1, r2⟩ := r
    rw [List.reverse_cons, List.reverse_cons]
    exact app (ih r2) ⟨v, [], rfl, r1, rfl⟩
theorem allLoc_rev {scope : Scope} : ∀ {xs : List Str}, allLoc scope xs = true → allLoc scope xs.reverse = true := by
  have app : ∀ {xs ys : List Str}, allLoc scope xs = true → allLoc scope ys = true → allLoc scope (xs ++ ys) = true := by
    intro xs
    induction xs with
    | nil => exact fun _ h => h
    | cons x xs ih => exact fun h k => Bool.and_eq_true_iff.mpr ⟨(Bool.and_eq_true_iff.mp h).1, ih (Bool.and_eq_true_iff.mp h).2 k⟩
  intro xs
  induction xs with
  | nil => exact fun h => h
  | cons x xs ih =>
    intro h
    rw [List.reverse_cons]
    exact app (ih (Bool.and_eq_true_iff.mp h).2) (Bool.and_eq_true_iff.mpr ⟨(Bool.and_eq_true_iff.mp h).1, rfl⟩)
theorem sameLen_of {α β : Type} : ∀ {a : List α} {b : List β}, a.length = b.length → sameLen a b = true
  | [], [], _ => rfl
  | _ :: a, _ :: b, h => sameLen_of (a := a) (b := b) (Nat.succ.inj h)
/-- a row of names takes a tuple apart -/
noncomputable def tupSt (scope : Scope) (loc : Loc) (own : List Str) (ts : List Expr) (e : Expr) (p : PV) : Option St2 :=
  with_ (partsPV p) fun ps => with_ (tnames ts) fun xs => with_ (swp scope.names ts e) fun w => onlyIf (allLoc scope xs && (sameLen xs ps && (allPlain ps || !isNil loc))) (match w with
    | none => some ((putAll xs ps loc, withoutAll xs own), none)
    | some ys => onlyIf (decide (ys = xs)) (some ((putAll xs.reverse ps.reverse loc, withoutAll xs.reverse own), none)))
theorem assignEach_plain {env : Env} : ∀ {ts : List Expr} {xs : List Str}, tnames ts = some xs → (assignEach ts env).findIdx? (·.1) = none ∧ (assignEach ts env).length = xs.length
  | [], xs, e => by cases e; exact ⟨rfl, rfl⟩
  | t :: ts, xs, e => by
    obtain ⟨x, p, ys, rfl, e2, rfl⟩ := tnames_cons e
    obtain ⟨h1, h2⟩ := assignEach_plain (env := env) e2
    refine ⟨?_, congrArg (· + 1) h2⟩
    show List.findIdx? _ ((false, _) :: assignEach ts env) = none
    rw [List.findIdx?_cons, h1]; rfl
theorem tup_use {ts : List Expr} {k : Nat} {tp pos : Pos} {e : Expr} {p : PV} (hcomp : isComp e = false) : Ok (tupSt scope loc own ts e p) fun r => ∀ (f : Fm) (m : Str → Option Value) (s : Shared) (Q : Flow → Shared → Prop) (E : Value → Shared → Prop), StOk W lv f scope cel loc own m s →
    wpR (model W.prog W.w) f.A (eval e f.env) (fun v s' => ∃ h' tk, s' = ⟨h', s.gens, s.drawn, tk, s.os⟩ ∧ s.heap.StaysIn h' ∧ Rep [] h' p v ∧ ∀ m₂ h₂ tk₂, Nx W lv f scope cel own m s r.1 r.2 m₂ h₂ tk₂ → Q .next ⟨h₂, s.gens, s.drawn, tk₂, s.os⟩) E s →
    wpR (model W.prog W.w) f.A (exec (.Assign [.Tuple ts k tp] e pos) f.env) Q E s := by
  refine .with_ fun ps hps => .with_ fun xs hxs => .with_ fun w hw => .onlyIf fun hb => ?_
  obtain ⟨b1, hb⟩ := Bool.and_eq_true_iff.mp hb
  obtain ⟨b2, b3⟩ := Bool.and_eq_true_iff.mp hb
  have start : ∀ (f : Fm) (m : Str → Option Value) (s : Shared) (Q : Flow → Shared → Prop) (E : Value → Shared → Prop), StOk W lv f scope cel loc own m s →
      wpR (model W.prog W.w) f.A (eval e f.env) (fun v s' => wpAny (model W.prog W.w) f.A (assignStores f.env v w ((assignEach [.Tuple ts k tp] f.env).map (·.2))) Q E s') E s → wpR (model W.prog W.w) f.A (exec (.Assign [.Tuple ts k tp] e pos) f.env) Q E s := by
    intro f m s Q E C h
    rw [arm_exec_Assign]
    refine wpR_bind (wpR_standAt ?_)
    show wpR _ _ (swapsWith e (some (.Tuple ts k tp)) pos.line f.env >>= _) Q E s
    rw [swaps_plain hcomp]
    refine wpR_bind (wpR_pure ?_)
    simp only [Bool.false_eq_true, if_false]
    refine wpR_bind (wpR_val h fun v s' h' => ?_)
    rw [swp_ok C hw]
    exact wpR_bind (wpR_pure (wpR_of h'))
  have go : ∀ (f : Fm) (m : Str → Option Value) (s : Shared) (Q : Flow → Shared → Prop) (E : Value → Shared → Prop) (h' : Heap) (tk : Nat) (v : Value), StOk W lv f scope cel loc own m s → s.heap.StaysIn h' → Rep [] h' p v →
      ∀ (R : List Value → Shared → Prop), (∀ h₂ vs, Nx W lv f scope cel own m s loc own m h₂ tk → Reps [f.L] h₂ ps vs → R vs ⟨h₂, s.gens, s.drawn, tk, s.os⟩) → wpAny (model W.prog W.w) f.A (unpackItems v xs.length none) R E ⟨h', s.gens, s.drawn, tk, s.os⟩ := by
    intro f m s Q E h' tk v C kk hr R g
    obtain ⟨a, vs, rfl, ht, rs⟩ := parts_rep hps hr
    have hlen : xs.length = vs.toArray.size := by rw [List.size_toArray, rs.length, sameLen_eq b2]
    rw [hlen]
    refine unpackItems_tuple rfl ht fun h₂ he => ?_
    have k2 : h'.StaysIn h₂ := fun b o e => he b o (Nat.ne_of_lt (Heap.lt_size e)) e
    have z : Nx W lv f scope cel own m s loc own m h₂ tk := Nx.of_stays C (stays_trans kk k2)
    exact g h₂ vs z ((rs.stays k2).apart z.ok.fr.ns ((Bool.or_eq_true_iff.mp b3).imp id fun q => z.ok.lc.some_of (by simpa using q)))
  cases w with
  | none =>
    refine .some fun _ f m s Q E C h => start f m s Q E C (wpR_val h ?_)
    rintro v _ ⟨h', tk, rfl, kk, hr, g⟩
    show wpAny _ _ (do assignAll v [assign (.Tuple ts k tp) f.env]; pure .next) Q E _
    refine wpAny_bind ?_
    show wpAny _ _ (do standAt tp; unpack v (assignEach ts f.env)) _ E _
    refine wpAny_bind (wpAny_standAt ?_)
    unfold unpack
    obtain ⟨q1, q2⟩ := assignEach_plain (env := f.env) hxs
    rw [q1, q2]
    exact wpAny_bind (wpAny_holding (go f m s Q E h' tk v C kk hr _ fun h₂ vs z rs => store_all z b1 rs b2 (stores_each hxs) fun m' h₃ tk₃ y => wpAny_pure (g m' h₃ tk₃ y)))
  | some ys =>
    refine .onlyIf fun hy => .some fun _ f m s Q E C h => start f m s Q E C (wpR_val h ?_)
    rintro v _ ⟨h', tk, rfl, kk, hr, g⟩
    have hy : ys = xs := of_decide_eq_true hy
    subst hy
    show wpAny _ _ (do rule "assign.swapped-stores"; let items ← unpackItems v ys.length none; assignInOrder (ys.reverse.map fun n => bindName f.env n) items.reverse; pure .next) Q E _
    refine wpAny_bind (wpAny_rule (wpAny_bind (go f m s Q E h' tk v C kk hr _ fun h₂ vs z rs => wpAny_bind (store_all z (allLoc_rev b1) rs.rev (sameLen_of (by simp [sameLen_eq b2])) (stores_bind _) fun m' h₃ tk₃ y => wpAny_pure (g m' h₃ tk₃ y)))))
theorem assignT_ok (hT : TbOk W lv T) {ts : List Expr} {k : Nat} {tp pos : Pos} {e : Expr} : Ok (onlyIf (!isComp e) (seq ((ev T n).1 ⟨scope.names, cel⟩ loc e) fun p => tupSt scope loc own ts e p)) fun r => Step W lv scope cel loc own (.Assign [.Tuple ts k tp] e pos) r := by
  refine .onlyIf fun h => .seq ((ev_ok hT n).1 _ _ e) fun p hp => ?_
  intro r c e hc f m s Q E C g
  exact tup_use (by simpa using h) r c e hc f m s Q E C (hp f f.env s _ E C.env fun v h' tk k r => ⟨h', tk, rfl, k, r, g⟩)
end
end Nt

set_option Elab.async false
set_option maxRecDepth 100000
set_option linter.all false
open PySem PySem.W PyProof.Rows PySem.Calls
namespace Nt
set_option genInjectivity false
set_option genSizeOf false

section
variable {prog : Program} {w : World} {A : Around} {s : Shared} {R : Result → Shared → Prop}
theorem codeR_call_def {a : Addr} {o : Obj} {fd : FuncData} {body : List Stmt} {args : Args} {binds : List (Str × Value)}
    (hroom : A.depth < recursionLimit) (ho : s.heap.get? a = some o) (hdata : o.data = .func fd) (hlim : s.heap.NoLimit) (hcd : s.heap.CodeRec fd.code fd.qualname)
    (hbody : fd.body = .stmts body) (hbind : BindsTo s fd args binds)
    (hcell : ∀ x ∈ fd.scope.names, x.2 ≠ .cell) (hloc : ∀ x ∈ binds, fd.scope.names.lookup x.1 = some .local)
    (h : ∀ h₀, h₀.Ns s.heap.objs.size (fun x => binds.reverse.lookup x) → (∀ b o, s.heap.get? b = some o → h₀.get? b = some o) →
      wpR (model prog w) (A.deeper (callEnv fd s.heap.objs.size a)) (execs body (callEnv fd s.heap.objs.size a)) (fun f s' => R (.ok (.ret (match f with | .ret v => v | _ => .none))) s')
        (fun e s' => wpAny (model prog w) (A.deeper (callEnv fd s.heap.objs.size a)) (leaving (callEnv fd s.heap.objs.size a) e) (fun _ s'' => R (.error e) s'') (fun e' s'' => R (.error e') s'') s')
        { s with heap := h₀, toks := s.toks + binds.length })
    (hco : fd.scope.isCoroutine = false) (hgen : fd.scope.isGenerator = false) (hk : fd.scope.kind = .function) :
    codeR (model prog w) A (.call (.ref a) args) R s := by
  refine codeR_call_function hroom ho hdata hco hgen hbody hcd (hbind _ _ _ _ ?_)
  refine wpAny_newFunctionEnv hcell hloc (fun h₀ hns₀ hsb₀ => ⟨hlim.fresh _ hsb₀, codeR_func (h h₀ hns₀ fun b o e => ?_)⟩) hk
  exact hsb₀.extBut b o (Nat.ne_of_lt (Heap.lt_size e)) (Heap.get?_push_of_some _ e)
end

/-- a def of the text, and how it binds -/
structure DefIs (W : Wd) (a : Addr) (q : Str) (body : List Stmt) (scope : Scope) (names : List Str) (cd : Value) : Prop where
  def_ : ∃ name params dV pm, (∃ oc od osl, W.K.lookup a = some ⟨oc, od, .func (fnOf name q params body scope dV .none .none pm none cd .none), osl⟩) ∧
    ∀ (s : Shared) (vs : List Value), W.K.In s.heap → vs.length = names.length → BindsTo s (fnOf name q params body scope dV .none .none pm none cd .none) ⟨vs, []⟩ (names.zip vs)
  code : codeIn W.K cd q = true
  cell : ∀ x ∈ scope.names, x.2 ≠ .cell
  loc : ∀ x ∈ names, scope.names.lookup x = some .local
  co : scope.isCoroutine = false
  gen : scope.isGenerator = false
  kind : scope.kind = .function

/-- the frame of a call -/
noncomputable def Fm.call (f : Fm) (h : Heap) (a : Addr) (q : Str) (scope : Scope) (cd : Value) : Fm :=
  { dp := f.dp + 1, un := f.un + 3, gd := f.gd, cn := q, cs := scope, a := a, ccd := cd, cl := [], outer := f.env :: f.outer, A₀ := f.A, base := f.base, h₀ := h, L := h.objs.size }

section
variable {W : Wd} {lv : Nat} {f : Fm} {s : Shared} {m : Str → Option Value}
theorem Fm.pushB {h : Heap} (ok : f.ok W lv) (F : Fr f.h₀ f.L h m) : Below f.A f.base (f.env :: f.outer) h := by
  have hnew : f.base.get? f.L = none := by
    cases hq : f.base.get? f.L with
    | none => rfl
    | some o => exact absurd (Nat.lt_of_lt_of_le (Heap.lt_size (ok.B.stays f.L o hq)) F.above) (Nat.lt_irrefl _)
  refine ⟨by rw [ok.dA]; exact Around.frames_deeper ok.B.stack, fun b o e => F.keep b o (ok.B.stays b o e), ?_⟩
  exact .cons (by show f.cs.kind ≠ .module; rw [ok.k]; decide) rfl F.ns hnew (ok.B.frames.of_keeps fun b o e _ => ⟨o, F.keep b o e, rfl⟩)
/-- the frame of a call, with cells -/
noncomputable def Fm.callC (f : Fm) (h : Heap) (a : Addr) (q : Str) (scope : Scope) (cd : Value) (cl : List (Str × Addr)) : Fm :=
  { dp := f.dp + 1, un := f.un + 3, gd := f.gd, cn := q, cs := scope, a := a, ccd := cd, cl := cl, outer := f.env :: f.outer, A₀ := f.A, base := f.base, h₀ := h, L := h.objs.size }
theorem Fm.callC_ok {a : Addr} {q : Str} {scope : Scope} {cd : Value} {cl : List (Str × Addr)} (ok : f.ok W (lv + 1)) (F : Fr f.h₀ f.L s.heap m) (hk : scope.kind = .function) : (f.callC s.heap a q scope cd cl).ok W lv where
  B := Fm.pushB ok F
  X := ok.X.keeps F.keep
  T := ok.T.keeps F.keep
  k := hk
  rd := by have := ok.rd; show f.dp + 1 + lv < _; lia
  ru := by have := ok.ru; show f.un + 3 + 10 * lv + 100 < _; lia
  dA := rfl
  XB := ok.XB
  TB := ok.TB
theorem Fm.call_ok {a : Addr} {q : Str} {scope : Scope} {cd : Value} (ok : f.ok W (lv + 1)) (F : Fr f.h₀ f.L s.heap m) (hk : scope.kind = .function) : (f.call s.heap a q scope cd).ok W lv := Fm.callC_ok (cl := []) ok F hk

theorem lookup_rev_zip {names : List Str} : ∀ {vs : List Value}, names.Nodup → vs.length = names.length → ∀ {x : Str} {v : Value}, (names.zip vs).lookup x = some v → ((names.zip vs).reverse).lookup x = some v := by
  intro vs hn hl x v h
  have mem : ∀ {l : List (Str × Value)}, l.lookup x = some v → (x, v) ∈ l := by
    intro l
    induction l with
    | nil => intro h; cases h
    | cons a r ih =>
      obtain ⟨y, u⟩ := a
      intro h
      rw [List.lookup_cons] at h
      by_cases e : x = y
      · subst e; rw [beq_self_eq_true] at h; cases h; exact .head _
      · rw [beq_eq_false_iff_ne.mpr e] at h; exact .tail _ (ih h)
  have uniq : ∀ {l : List (Str × Value)}, (l.map (·.1)).Nodup → (x, v) ∈ l → l.lookup x = some v := by
    intro l
    induction l with
    | nil => intro _ h; cases h
    | cons a r ih =>
      obtain ⟨y, u⟩ := a
      intro hd h
      rw [List.map_cons, List.nodup_cons] at hd
      rw [List.lookup_cons]
      rcases List.mem_cons.mp h with e | h
      · cases e; rw [beq_self_eq_true]
      · have : x ≠ y := fun q => hd.1 (q ▸ List.mem_map.mpr ⟨_, h, rfl⟩)
        rw [beq_eq_false_iff_ne.mpr this]; exact ih hd.2 h
  refine uniq ?_ (List.mem_reverse.mpr (mem h))
  rw [List.map_reverse, List.map_fst_zip (by lia)]
  exact (List.reverse_perm _).nodup_iff.mpr hn
theorem lc_zip {H : List Addr} {h : Heap} : ∀ {names : List Str} {ps : List PV} {vs : List Value}, names.length = ps.length → Reps H h ps vs →
    ∀ x p, (names.zip ps).lookup x = some p → ∃ v, (names.zip vs).lookup x = some v ∧ Rep H h p v
  | [], [], _, _, _, _, _, e => nomatch e
  | n :: ns, q :: qs, _, hl, ⟨v, r, rfl, r1, r2⟩, x, p, e => by
    rw [List.zip_cons_cons, List.lookup_cons] at e
    rw [List.zip_cons_cons, List.lookup_cons]
    by_cases hx : x = n
    · subst hx; rw [beq_self_eq_true] at e ⊢; cases e; exact ⟨v, rfl, r1⟩
    · rw [beq_eq_false_iff_ne.mpr hx] at e ⊢; exact lc_zip (Nat.succ.inj hl) r2 x p e
theorem Reps.less' {H : List Addr} {h : Heap} (k : ∀ o, ¬ ∃ a ∈ H, h.get? a = some o) : ∀ {ps : List PV} {vs : List Value}, Reps [] h ps vs → Reps H h ps vs
  | [], _, r => r
  | _ :: _, _, ⟨v, r, e, r1, r2⟩ => ⟨v, r, e, r1.turn (fun _ _ _ e => e) (fun a o _ e q => k o ⟨a, q, e⟩), r2.less' k⟩

/-- a call walks into the def's frame -/
theorem call_def {a : Addr} {q : Str} {body : List Stmt} {scope : Scope} {names : List Str} {cd : Value} (D : DefIs W a q body scope names cd) (nd : names.Nodup) {ps : List PV} {vs : List Value} {Q E : Value → Shared → Prop}
    (ok : f.ok W (lv + 1)) (F : Fr f.h₀ f.L s.heap m) (hr : Reps [] s.heap ps vs) (hl : ps.length = names.length)
    (h : ∀ f' m' s', f' = f.call s.heap a q scope cd → s'.gens = s.gens → s'.drawn = s.drawn → s'.os = s.os → StOk W lv f' scope [] (names.zip ps) [] m' s' →
      wpR (model W.prog W.w) f'.A (execs body f'.env) (fun fl s'' => Q (match fl with | .ret v => v | _ => .none) s'')
        (fun e s'' => wpAny (model W.prog W.w) f'.A (leaving f'.env e) (fun _ s₃ => E e s₃) (fun e' s₃ => E e' s₃) s'') s') :
    wpR (model W.prog W.w) f.A (call (.ref a) vs) Q E s := by
  obtain ⟨name, params, dV, pm, ⟨oc, od, osl, hK⟩, hb⟩ := D.def_
  have X := ok.X.keeps F.keep
  have hlen : vs.length = names.length := by rw [hr.length, hl]
  refine wpR_call (codeR_call_def (fd := fnOf name q params body scope dV .none .none pm none cd .none) (binds := names.zip vs) ?_ (X _ _ hK) rfl (ok.T.nolimit.keeps F.keep) (codeRec_of X D.code) rfl (hb _ vs X hlen) D.cell
    (fun x hx => D.loc x.1 (by obtain ⟨y, z⟩ := x; exact (List.of_mem_zip hx).1)) (fun h₀ hns hk => ?_) D.co D.gen D.kind)
  · show f.dp < _
    have := ok.rd; lia
  have F' : Fr s.heap s.heap.objs.size h₀ (fun x => (names.zip vs).reverse.lookup x) := ⟨hns, hk, Nat.le_refl _⟩
  have st : StOk W lv (f.call s.heap a q scope cd) scope [] (names.zip ps) [] (fun x => (names.zip vs).reverse.lookup x) { s with heap := h₀, toks := s.toks + (names.zip vs).length } := by
    refine ⟨rfl, fun _ _ e => (nomatch e), Fm.call_ok ok F D.kind, F', fun x p e => ?_, fun _ hx => nomatch hx⟩
    obtain ⟨v, e1, e2⟩ := lc_zip hl.symm (hr.less' (H := [s.heap.objs.size]) fun o ⟨b, hb, e⟩ => by
      rw [List.mem_singleton.mp hb] at e
      exact absurd (Heap.lt_size e) (Nat.lt_irrefl _)) x p e
    refine ⟨v, lookup_rev_zip nd hlen e1, e2.same fun b o nb e => hk b o e⟩
  exact h _ _ _ rfl rfl rfl rfl st

/-- a def without a raise answers its spec -/
theorem fn_ok {a : Addr} {q : Str} {body : List Stmt} {scope : Scope} {names : List Str} {cd : Value} (D : DefIs W a q body scope names cd) (nd : names.Nodup) {sp : Spec}
    (h : ∀ ps r c, sp ps = some (r, c) → c.holds → ps.length = names.length ∧ Runs (fun _ _ _ _ => False) W lv scope [] (names.zip ps) [] body (fun o => o = .ret r)) : CallOk W (lv + 1) (.ref a) sp := by
  intro f s ps vs Q E ok ⟨m, F⟩ hr r c e hc g
  obtain ⟨hl, hR⟩ := h ps r c e hc
  refine call_def D nd ok F hr hl fun f' m' s' hf hg hd hos st => ?_
  subst hf
  refine hR _ _ _ _ _ st ⟨fun l o _ _ _ k => (nomatch k), fun p v m₂ h₂ tk k F₂ r₂ => ?_, fun C k => nomatch k⟩
  cases k
  rw [hg, hd, hos]
  exact g v h₂ tk (fun b o e => F₂.keep b o e) r₂
end
end Nt

set_option Elab.async false
set_option maxRecDepth 100000
set_option linter.all false
open PySem PySem.W PyProof.Rows PySem.Calls
namespace Nt
set_option genInjectivity false
set_option genSizeOf false
noncomputable abbrev bmE : List Value := [.type "Exception", .type "BaseException", .type "object"]
/-- an exception class of the text over one of its own, with an __init__ written there -/
structure XCls (h : Heap) (C G I : Addr) : Prop where
  c : ∃ nm q N bs sn sub ab col dd k0 k1 k2 k3 k5 mN, h.get? C = some (excClassObj nm q C N bs (.ref G :: bmE) true sn sub ab col dd k0 k1 k2 k3 k5 "Exception.__new__") ∧ h.Ns N mN ∧ mN "__init__" = none ∧ mN "told" = none ∧ mN "__setattr__" = none
  g : ∃ nm q N bs sn sub ab col dd k0 k1 k2 k3 k5 mN, h.get? G = some (excClassObj nm q G N bs bmE true sn sub ab col dd k0 k1 k2 k3 k5 "Exception.__new__") ∧ h.Ns N mN ∧ mN "__init__" = some (.ref I) ∧ mN "told" = none ∧ mN "__setattr__" = none
theorem XCls.keeps {h h' : Heap} {C G I : Addr} (x : XCls h C G I) (k : h.StaysIn h') : XCls h' C G I := by
  refine cps fun Z fin => ?_
  obtain ⟨⟨nm, q, N, bs, sn, sub, ab, col, dd, k0, k1, k2, k3, k5, mN, e, n, r⟩, ⟨nm', q', N', bs', sn', sub', ab', col', dd', l0, l1, l2, l3, l5, mN', e', n', r'⟩⟩ := x
  refine fin ?_
  exact ⟨⟨nm, q, N, bs, sn, sub, ab, col, dd, k0, k1, k2, k3, k5, mN, k _ _ e, n.keeps k, r⟩, ⟨nm', q', N', bs', sn', sub', ab', col', dd', l0, l1, l2, l3, l5, mN', k _ _ e', n'.keeps k, r'⟩⟩

section
variable {M : Model} {A : Around} {E : Value → Shared → Prop} {h : Heap} {g : Array GenState} {d : Drawn} {t : Nat} {os : OsState}
variable {nm q : Str} {C N : Addr} {bs bm : List Value} {hdct : Bool} {sn : List Str} {sub : List Value} {ab : Bool} {col : Option Bool} {dd : Option Addr} {k0 k1 k2 k3 k5 : Option Value} {newId : String}
variable {nm' q' : Str} {G N' : Addr} {bs' : List Value} {hdct' : Bool} {sn' : List Str} {sub' : List Value} {ab' : Bool} {col' : Option Bool} {dd' : Option Addr} {l0 l1 l2 l3 l5 : Option Value} {newId' : String}
/-- a look along two classes of the text -/
theorem lookup2 {B : String} {name : Str} {mN mG : Str → Option Value} {y : Option Value} {Q : Option Value → Shared → Prop}
    (hC : h.get? C = some (excClassObj nm q C N bs (.ref G :: bm) hdct sn sub ab col dd k0 k1 k2 k3 k5 newId)) (hn : h.Ns N mN)
    (hG : h.get? G = some (excClassObj nm' q' G N' bs' bm hdct' sn' sub' ab' col' dd' l0 l1 l2 l3 l5 newId')) (hg : h.Ns N' mG)
    (hbm : mroOf (.type B) = pure bm) (hB : typeLookup (.type B) name = pure y) (h1 : mN name = none)
    (hq : Q (match mG name with | some v => some v | none => y) ⟨h, g, d, t, os⟩) : wpAny M A (typeLookup (.ref C) name) Q E ⟨h, g, d, t, os⟩ := by
  have hrest : lookupAlong bm name = pure y := by rw [typeLookup_eq, hbm] at hB; exact hB
  rw [typeLookup_eq]
  refine wpAny_bind (wpAny_mroOf_exc hC ?_)
  rw [lookupAlong_cons]
  refine wpAny_bind (wpAny_classOwn_exc hC hn ?_)
  rw [h1]
  show wpAny M A (lookupAlong (.ref G :: bm) name) Q E _
  rw [lookupAlong_cons]
  refine wpAny_bind (wpAny_classOwn_exc hG hg ?_)
  cases hv : mG name with
  | some v => rw [hv] at hq; exact wpAny_pure hq
  | none => rw [hv] at hq; rw [hrest]; exact wpAny_pure hq
end

section
variable {prog : Program} {w : World} {A : Around} {E : Value → Shared → Prop} {h : Heap} {g : Array GenState} {d : Drawn} {t : Nat} {os : OsState} {C G I x : Addr} {v : Value}
theorem told_none : typeLookup (.type "Exception") "told" = pure none := by rw [typeLookup_type, builtinLookup_eq_fast]; kernel_rfl
/-- told is written on a new exception -/
theorem store_told {o : Obj} {tk : Tok} {Q : Fin → Shared → Prop} (X : XCls h C G I) (hx : h.get? x = some o) (hc : o.cls = .ref C) (hnc : ∀ c, o.data ≠ .cls c) (hdn : o.dict = none)
    (hq : ∀ h' tk' dx, (∀ b ob, b ≠ x → h.get? b = some ob → h'.get? b = some ob) → h'.get? x = some { o with dict := some dx } → Q (.done (.ret .none)) ⟨h', g, d, tk', os⟩) :
    wpAny (model prog w) A (Builtin.«object.__setattr__» ⟨[.ref x, .str "told" tk, v], []⟩) Q E ⟨h, g, d, t, os⟩ := by
  obtain ⟨⟨nm, q, N, bs, sn, sub, ab, col, dd, k0, k1, k2, k3, k5, mN, hC, hn, i1, i2, i3⟩, ⟨nm', q', N', bs', sn', sub', ab', col', dd', l0, l1, l2, l3, l5, mN', hG, hn', j1, j2, j3⟩⟩ := X
  have hpass := PySem.F.store_Exception.passes (.ref x)
  have two : refuseLoop (.ref x) "__setattr__" (.ref C :: .ref G :: bmE) = pure () := by rw [refuseLoop_ref, refuseLoop_ref]; exact hpass
  unfold Builtin.«object.__setattr__»
  repeat (first | rw [refuse_eq] | (rw [two]) | (with_reducible refine wpAny_loadPart_at hx ?_; rw [hc]) | with_reducible refine wpAny_mroOf_exc hC ?_ | (with_reducible refine lookup2 hC hn hG hn' PySem.F.store_Exception.mro told_none i2 ?_; rw [j2]) | wp_step)
  rw [hdn, if_neg (by simp [typeHasDict])]
  split
  · rename_i hcd
    cases hcd
  split
  · rename_i c hcd
    exact absurd hcd (hnc c)
  · have hx₁ : (h.push { cls := .type "dict", data := .dict #[] }).get? x = some o := Heap.get?_push_of_some _ hx
    have hxs : x ≠ h.objs.size := Nat.ne_of_lt (Heap.lt_size hx)
    refine wpAny_bind (wpAny_alloc' ?_)
    refine wpAny_bind (wpAny_update' hx₁ ?_)
    refine wpAny_pure ?_
    have hgd : ((h.push { cls := .type "dict", data := .dict #[] }).update x fun o => { cls := o.cls, dict := some h.objs.size, data := o.data, slots := o.slots }).get? h.objs.size
        = some { cls := .type "dict", data := .dict #[] } :=
      (Heap.get?_update_ne _ _ _ _ hxs.symm).trans (Heap.get?_push_at rfl rfl)
    have hnd : ((h.push { cls := .type "dict", data := .dict #[] }).update x fun o => { cls := o.cls, dict := some h.objs.size, data := o.data, slots := o.slots }).Ns h.objs.size (fun _ => none) :=
      ⟨_, #[], _, hgd, rfl, fun e he => absurd he (by simp), fun _ => rfl⟩
    show wpAny _ _ (Builtin.ObjectAttr.storeInDict h.objs.size (.str "told" tk) "told" v) _ _ _
    unfold Builtin.ObjectAttr.storeInDict Builtin.ObjectAttr.newKeyGuard
    refine wpAny_bind (wpAny_pure (wpAny_bind (wpAny_nsSet1 (Heap.Ns1.of_empty hnd) fun h' hn' hs => ?_)))
    refine cps fun Z fin => ?_
    obtain ⟨oD, esD, epD, hoD, hdD, hcD⟩ := hn'.count (Within.cons "told" v Within.nil)
    refine fin ?_
    refine wpAny_bind (wpAny_lookBehind hoD (by rw [hdD]; exact pastItsLine_dict (Nat.le_trans hcD (by rw [List.length_cons, List.length_nil, sizeLine_eq]; lia))) ?_)
    wp_walk
    refine hq h' _ h.objs.size (fun b ob hbx hb => ?_) ?_
    · exact (hs.2 b (Nat.ne_of_lt (Heap.lt_size hb))).trans ((Heap.get?_update_ne _ _ _ _ hbx).trans (Heap.get?_push_of_some _ hb))
    · refine (hs.2 x hxs).trans (Heap.get?_update_self _ hx₁ ?_)
      have hfr := (Heap.get?_some_iff.mp hx).2
      obtain ⟨oc, od, odt, osl⟩ := o
      cases odt <;> first | rfl | exact hfr
theorem check_told {M : Model} {o : Obj} {nameV : Value} {Q : Unit → Shared → Prop} (X : XCls h C G I) (hx : h.get? x = some o) (hc : o.cls = .ref C) (hq : Q () ⟨h, g, d, t, os⟩) :
    wpAny M A (checkBuiltinCall "object.__setattr__" ⟨[.ref x, nameV, v], []⟩) Q E ⟨h, g, d, t, os⟩ := by
  refine cps fun Z fin => ?_
  obtain ⟨⟨nm, q, N, bs, sn, sub, ab, col, dd, k0, k1, k2, k3, k5, mN, hC, hn, i1, i2, i3⟩, _⟩ := X
  refine fin ?_
  have hcB : (Value.ref C :: .ref G :: bmE).contains (.type "object") = true := by simp [List.contains_cons]
  simp only [checkBuiltinCall, PySem.F.store_Exception.kind, PySem.F.store_Exception.split]
  refine wpAny_bind ?_
  unfold isInstance
  repeat (first | (with_reducible refine wpAny_loadPart_at hx ?_; rw [hc]) | (with_reducible refine wpAny_isSubtype_exc hC ?_; rw [hcB]) | wp_step)
  exact hq
theorem set_told {o : Obj} {Q : Unit → Shared → Prop} (X : XCls h C G I) (hx : h.get? x = some o) (hc : o.cls = .ref C) (hnc : ∀ c, o.data ≠ .cls c) (hdn : o.dict = none)
    (hq : ∀ h' tk' dx, (∀ b ob, b ≠ x → h.get? b = some ob → h'.get? b = some ob) → h'.get? x = some { o with dict := some dx } → Q () ⟨h', g, d, tk', os⟩) :
    wpAny (model prog w) A (setAttr (.ref x) "told" v) Q E ⟨h, g, d, t, os⟩ := by
  have X' := X
  obtain ⟨⟨nm, q, N, bs, sn, sub, ab, col, dd, k0, k1, k2, k3, k5, mN, hC, hn, i1, i2, i3⟩, ⟨nm', q', N', bs', sn', sub', ab', col', dd', l0, l1, l2, l3, l5, mN', hG, hn', j1, j2, j3⟩⟩ := X'
  have f3 := PySem.F.store_Exception.slot.bind (.ref x)
  unfold setAttr callSpecial? specialOf
  repeat (any_goals (first | assumption | (with_reducible refine wpAny_loadPart_at hx ?_; rw [hc]) | (with_reducible refine lookup2 hC hn hG hn' PySem.F.store_Exception.mro PySem.F.store_Exception.slot.lookup i3 ?_; rw [j3]) | wp_step))
  refine codeAny_call_builtin PySem.F.store_Exception.slot.plain PySem.F.store_Exception.entry (check_told X hx hc (store_told X hx hc hnc hdn fun h' tk' dx hk he => ?_))
  repeat (any_goals (first | assumption | wp_step))
  exact hq h' tk' dx hk he
end
end Nt

set_option Elab.async false
set_option maxRecDepth 100000
set_option linter.all false
open PySem PySem.W PyProof.Rows PySem.Calls
namespace Nt
set_option genInjectivity false
set_option genSizeOf false
/-- an exception just made -/
structure Made (h h' : Heap) (e C : Addr) : Prop where
  keeps : h.StaysIn h'
  new : h.get? e = none
  there : ∃ o t, h'.get? e = some o ∧ o.cls = .ref C ∧ o.data = .fields #[.ref t, .none, .none, .none, .bool false, .none]

section
variable {prog : Program} {w : World} {A : Around} {E : Value → Shared → Prop} {R : Result → Shared → Prop} {h : Heap} {g : Array GenState} {d : Drawn} {t : Nat} {os : OsState} {C G I x : Addr} {v : Value}
noncomputable abbrev FE := PySem.F.excBase_Exception
theorem check_newX {M : Model} {rest : List Value} {Q : Unit → Shared → Prop} (X : XCls h C G I) (hq : Q () ⟨h, g, d, t, os⟩) : wpAny M A (checkBuiltinCall "Exception.__new__" ⟨.ref C :: rest, []⟩) Q E ⟨h, g, d, t, os⟩ := by
  refine cps fun Z fin => ?_
  obtain ⟨⟨nm, q, N, bs, sn, sub, ab, col, dd, k0, k1, k2, k3, k5, mN, hC, hn, i1, i2, i3⟩, _⟩ := X
  refine fin ?_
  have hcont : (Value.ref C :: .ref G :: bmE).contains (.type "Exception") = true := by simp [List.contains_cons]
  have hstar := FE.noStar
  simp only [checkBuiltinCall, FE.newKind, FE.newSplit, FE.newRow]
  repeat (first | refine wpAny_loadPart_at hC ?_ | (refine wpAny_isSubtype_exc hC ?_; rw [hcont]) | refine wpAny_staticBase_exc hC ?_ | refine wpAny_madeBy_exc hC ?_ | simp only [bne_self_eq_false, Bool.false_eq_true, if_false] | wp_step)
  exact hq
theorem exc_newX {rest : List Value} (X : XCls h C G I)
    (hq : R (.ok (.ret (.ref (h.objs.size + 1)))) ⟨(h.push { cls := .type "tuple", data := .seq rest.toArray }).push
      { cls := .ref C, data := .fields #[.ref h.objs.size, .none, .none, .none, .bool false, .none] }, g, d, t, os⟩) (hrest : rest.length ≤ sizeLine) :
    codeAny (model prog w) A (.builtin "Exception.__new__" ⟨.ref C :: rest, []⟩) R ⟨h, g, d, t, os⟩ := by
  refine cps fun Z fin => ?_
  obtain ⟨⟨nm, q, N, bs, sn, sub, ab, col, dd, k0, k1, k2, k3, k5, mN, hC, hn, i1, i2, i3⟩, _⟩ := X
  refine fin ?_
  have hends := FE.ends
  have hcB : (Value.ref C :: .ref G :: bmE).contains (.type "Exception") = true := by simp [List.contains_cons]
  have hcA : (Value.ref C :: .ref G :: bmE).contains (.type "AttributeError") = false := by rw [List.contains_cons, List.contains_cons, FE.noAttr]; rfl
  have hcN : (Value.ref C :: .ref G :: bmE).contains (.type "NameError") = false := by rw [List.contains_cons, List.contains_cons, FE.noName]; rfl
  refine codeAny_builtinAt FE.entry ?_
  unfold Builtin.«BaseException.__new__»
  refine PySem.wpAt_bind ?_
  show PySem.wpAt _ _ _ (stack >>= _) _ _ _
  refine PySem.wpAt_bind (PySem.wpAt_stack fun p below => PySem.wpAt_of_wpAny ?_)
  wp_walk
  refine PySem.wpAt_of_wpAny ?_
  rw [FE.owner]
  repeat (first | with_reducible refine wpAny_madeHere_exc FE.canon hC ?_ | with_reducible refine wpAny_loadPart_at hC ?_ | (with_reducible refine wpAny_isSubtype_exc hC ?_; first | rw [hcB] | rw [hcA] | rw [hcN]) | wp_step)
  show R _ _
  rw [Heap.size_push]
  exact hq
end

section
variable {W : Wd} {A : Around} {E : Value → Shared → Prop} {R : Result → Shared → Prop} {h : Heap} {g : Array GenState} {d : Drawn} {t : Nat} {os : OsState} {C G I x : Addr} {v : Value} {o : Obj} {q : Str} {scope : Scope} {cd : Value} {p1 p2 p3 p4 : Pos}
theorem init_ok (D : DefIs W I q [.Assign [.Attribute (.Name "self" p1) "told" p2] (.Name "told" p3) p4] scope ["self", "told"] cd) (X : XCls h C G I) (hK : W.K.In h) (hlim : h.NoLimit) (room : A.depth < recursionLimit)
    (hx : h.get? x = some o) (hc : o.cls = .ref C) (hnc : ∀ c, o.data ≠ .cls c) (hdn : o.dict = none)
    (hq : ∀ h' tk' dx, (∀ b ob, b ≠ x → h.get? b = some ob → h'.get? b = some ob) → h'.get? x = some { o with dict := some dx } → R (.ok (.ret .none)) ⟨h', g, d, tk', os⟩) :
    codeAny (model W.prog W.w) A (.call (.ref I) ⟨[.ref x, v], []⟩) R ⟨h, g, d, t, os⟩ := by
  refine cps fun Z fin => ?_
  obtain ⟨name, params, dV, pm, ⟨oc, od, osl, hI⟩, hb⟩ := D.def_
  refine fin ?_
  refine codeAny_call_def (fd := fnOf name q params _ scope dV .none .none pm none cd .none) (binds := ([("self" : Str), ("told" : Str)]).zip [.ref x, v]) room (hK _ _ hI) rfl hlim (codeRec_of hK D.code) rfl (hb _ [.ref x, v] hK rfl) D.cell
    (fun y hy => D.loc y.1 (by obtain ⟨a, b⟩ := y; exact (List.of_mem_zip hy).1)) (fun h₀ hns hk => ?_) D.co D.gen D.kind
  refine wpAny_execs_cons (plainObj_wpAny_Assign_Attribute (hs := rfl) ?_)
  refine wpAny_Name (wpAny_loadName_local D.kind (D.loc "told" (by simp)) hns (v := v) (by rfl) ?_)
  refine wpAny_Name (wpAny_loadName_local D.kind (D.loc "self" (by simp)) hns (v := .ref x) (by rfl) ?_)
  refine set_told (X.keeps hk) (hk _ _ hx) hc hnc hdn fun h' tk' dx h1 h2 => ?_
  refine wpAny_execs_nil ?_
  exact hq h' tk' dx (fun b ob nb e => h1 b ob nb (hk _ _ e)) h2

theorem type_callX (D : DefIs W I q [.Assign [.Attribute (.Name "self" p1) "told" p2] (.Name "told" p3) p4] scope ["self", "told"] cd) (X : XCls h C G I) (hK : W.K.In h) (hfc : ∃ ob, W.K.lookup I = some ob ∧ ob.cls = .type "function") (hlim : h.NoLimit) (room : A.depth < recursionLimit) {Q : Fin → Shared → Prop}
    (hq : ∀ h' e tk, Made h h' e C → Q (.done (.ret (.ref e))) ⟨h', g, d, tk, os⟩) :
    wpAny (model W.prog W.w) A (Builtin.«type.__call__» ⟨[.ref C, v], []⟩) Q E ⟨h, g, d, t, os⟩ := by
  have X' := X
  obtain ⟨⟨nm, q, N, bs, sn, sub, ab, col, dd, k0, k1, k2, k3, k5, mN, hC, hn, i1, i2, i3⟩, ⟨nm', q', N', bs', sn', sub', ab', col', dd', l0, l1, l2, l3, l5, mN', hG, hn', j1, j2, j3⟩⟩ := X'
  repeat (first | with_reducible refine wpAny_loadPart_at hC ?_ | with_reducible refine wpAny_madeBy_exc hC ?_ | wp_step)
  refine codeAny_call_builtin_code (Code.quiet_builtin _ FE.quiet) (check_newX X ?_)
  refine exc_newX X ?_ (by show 1 ≤ sizeLine; rw [sizeLine_eq]; decide)
  show wpAny _ _ _ _ _ _
  have k₁ : h.StaysIn ((h.push { cls := .type "tuple", data := .seq [v].toArray }).push { cls := .ref C, data := .fields #[.ref h.objs.size, .none, .none, .none, .bool false, .none] }) := stays_trans (stays_push _ _) (stays_push _ _)
  have hget : ((h.push { cls := .type "tuple", data := .seq [v].toArray }).push
      { cls := .ref C, data := .fields #[.ref h.objs.size, .none, .none, .none, .bool false, .none] }).get? (h.objs.size + 1) = some
      { cls := .ref C, data := .fields #[.ref h.objs.size, .none, .none, .none, .bool false, .none] } := by heap_get
  generalize ((h.push { cls := .type "tuple", data := .seq [v].toArray }).push { cls := .ref C, data := .fields #[.ref h.objs.size, .none, .none, .none, .bool false, .none] }) = h₁ at k₁ hget ⊢
  have hC₁ := k₁ _ _ hC
  have hcC : (Value.ref C :: .ref G :: bmE).contains (.ref C) = true := by simp
  unfold isInstance
  repeat (first | with_reducible refine wpAny_loadPart_at hget ?_ | (with_reducible refine wpAny_isSubtype_exc hC₁ ?_; rw [hcC]) | wp_step)
  obtain ⟨ob, hI, hfc⟩ := hfc
  have hI₁ := k₁ _ _ (hK _ _ hI)
  refine lookup2 hC₁ (hn.keeps k₁) (k₁ _ _ hG) (hn'.keeps k₁) FE.mroIs FE.init.lookup i1 ?_
  rw [j1]
  dsimp only
  refine wpAny_holding (wpAny_bind (wpAny_bindSpecial_def (s := ⟨h₁, g, d, t, os⟩) hI₁ hfc ?_))
  refine wpAny_bind (wpAny_call ?_)
  refine init_ok D (X.keeps k₁) (hK.keeps k₁) (hlim.keeps k₁) room hget rfl (fun _ q => nomatch q) rfl fun h' tk' dx hk he => ?_
  refine wpAny_pure ?_
  simp only [bne_self_eq_false, Bool.false_eq_true, if_false]
  have hn : ∀ b o, h.get? b = some o → b ≠ h.objs.size + 1 := fun b o e => Nat.ne_of_lt (Nat.lt_succ_of_lt (Heap.lt_size e))
  exact wpAny_pure (hq h' _ tk' ⟨fun b o e => hk _ _ (hn _ _ e) (k₁ _ _ e), Heap.get?_none_of_le (Nat.le_succ _), _, _, he, rfl, rfl⟩)
theorem call_excX (D : DefIs W I q [.Assign [.Attribute (.Name "self" p1) "told" p2] (.Name "told" p3) p4] scope ["self", "told"] cd) (X : XCls h C G I) (hK : W.K.In h) (hfc : ∃ ob, W.K.lookup I = some ob ∧ ob.cls = .type "function") (hlim : h.NoLimit) (room : A.depth + 1 < recursionLimit) {Q : Value → Shared → Prop}
    (hq : ∀ h' e tk, Made h h' e C → Q (.ref e) ⟨h', g, d, tk, os⟩) : wpAny (model W.prog W.w) A (call (.ref C) [v]) Q E ⟨h, g, d, t, os⟩ := by
  have X' := X
  obtain ⟨⟨nm, q, N, bs, sn, sub, ab, col, dd, k0, k1, k2, k3, k5, mN, hC, hn, i1, i2, i3⟩, _⟩ := X'
  have f1 := tc_lookup
  have f2 := tc_bind (.ref C)
  have hT : (⟨h, g, d, t, os⟩ : Shared).TypeIs (.ref C) "type" := ⟨_, hC, rfl⟩
  refine wpAny_call (codeAny_of_tree ?_)
  show wpAny _ _ (callAny (.ref C) _) _ _ _
  repeat (any_goals (first | assumption | with_reducible refine wpAny_loadPart_at hC ?_ | wp_step))
  refine ⟨rfl, ?_⟩
  refine codeAny_call_builtin_at (Code.quiet_builtin _ (by decide +kernel)) entry_typeCall (wpAny_check_type_call_sub hC (type_callX D X hK hfc hlim (by show A.depth + Code.weight (.builtin "type.__call__" ⟨[.ref C, v], []⟩) < _; rw [show Code.weight (.builtin "type.__call__" ⟨[.ref C, v], []⟩) = 1 by kernel_rfl]; exact room) fun h' e tk hm => ?_))
  exact hq h' e tk hm
end
end Nt

set_option Elab.async false
set_option maxRecDepth 100000
set_option linter.all false
open PySem PySem.W PyProof.Rows PySem.Calls
namespace Nt
set_option genInjectivity false
set_option genSizeOf false

/-- an exception, its fields but for the traceback, and that -/
noncomputable def FlyA (h B : Heap) (e C : Addr) (vs : Array Value) (fl : Value) : Prop :=
  ∃ oe T oT ts, h.get? e = some oe ∧ oe.cls = .ref C ∧ oe.data = .fields (vs.setIfInBounds 1 (.ref T)) ∧ B.get? T = none ∧ T ≠ e ∧ h.get? T = some oT ∧ oT.data = .fields ts ∧ ts[3]? = some fl
/-- an exception on its way through these frames -/
structure FlyX (B : Heap) (l : List Env) (e C : Addr) (vs : Array Value) (fl : Value) (h : Heap) : Prop where
  base : B.StaysIn h
  new : B.get? e = none
  frames : h.FunFrames B l
  sz : 2 < vs.size
  at_ : FlyA h B e C vs fl

section
variable {M : Model} {A : Around} {E : Value → Shared → Prop} {s : Shared} {B : Heap} {env : Env} {outer l : List Env} {L e C : Addr} {vs : Array Value} {fl : Value} {Q : Unit → Shared → Prop}
theorem set_set (vs : Array Value) (x y : Value) : (vs.setIfInBounds 1 x).setIfInBounds 1 y = vs.setIfInBounds 1 y := by
  apply Array.ext
  · simp
  · intro i h1 h2
    by_cases q : 1 = i
    · subst q; simp
    · simp [Array.getElem_setIfInBounds, q]
theorem entryA {oe : Obj} {ws : Array Value} {head : Value} {hadNext : Bool} (hfr : A.frames = some (env :: outer)) (hl : s.heap.FunFrames B (env :: outer)) (hf : env.frame = some L)
    (he : s.heap.get? e = some oe) (hkb : B.StaysIn s.heap) (hen : B.get? e = none) (hc : oe.cls = .ref C) (hd : oe.data = .fields ws) (hsz : 2 < ws.size)
    (h : ∀ h', FlyX B (env :: outer) e C ws (rawInt L) h' → s.heap.UpToSlots h' → Q () { s with heap := h' }) :
    wpAny M A (do let a ← frameOf env; let pl ← entryPlaceOf L hadNext; let b ← EntryCells.newEntry head a .none (rawInt L) .none pl; setField (.ref e) 1 b) Q E s := by
  have hene : e ∉ (env :: outer).filterMap (·.frame) := fun hm => by
    obtain ⟨_, o, ho, hnf⟩ := hl.mem hm
    rw [he] at ho; injection ho with ho; subst ho; exact hnf ws hd
  refine wpAny_bind (wpAny_frameOf_fun hfr hl hf fun h₁ hs₁ => ?_)
  refine wpAny_bind (wpAny_entryPlaceOf fun pl hpl => ?_)
  unfold EntryCells.newEntry newFields
  refine wpAny_bind (wpAny_newObj_type ?_ (hpl.sizeOk5 _ _ _ _ _))
  have he₁ : h₁.get? e = some oe := (hs₁.2.1 e hene).trans he
  have kb₁ : B.StaysIn h₁ := fun b o hbo => (hs₁.2.1 b fun hm => by rw [(hl.mem hm).1] at hbo; cases hbo).trans (hkb b o hbo)
  generalize hT0 : ({ cls := .type "traceback", dict := none, data := .fields ([head, .ref L, .none, rawInt L, .none] ++ (if pl.isEmpty then List.replicate 6 Value.none else pl)).toArray } : Obj) = oT
  have hTd : oT.data = .fields ([head, .ref L, .none, rawInt L, .none] ++ (if pl.isEmpty then List.replicate 6 Value.none else pl)).toArray := by rw [← hT0]
  have hTf : oT.isFreed = false := by rw [← hT0]; rfl
  have he₂ := Heap.get?_push_of_some (h := h₁) oT he₁
  refine wpAny_setField he₂ hd (Nat.lt_of_succ_lt hsz) ?_
  have hTe : h₁.objs.size ≠ e := Nat.ne_of_gt (Heap.lt_size he₁)
  have hd₃ := Obj.data_mapFields hd (·.setIfInBounds 1 (Value.ref h₁.objs.size))
  have he₃ := Heap.get?_update_self (Obj.mapFields (·.setIfInBounds 1 (Value.ref h₁.objs.size))) he₂ (Obj.isFreed_of_fields hd₃)
  have hT₃ := (Heap.get?_update_other (h₁.push oT) (Obj.mapFields (·.setIfInBounds 1 (Value.ref h₁.objs.size))) (Ne.symm hTe)).trans (Heap.get?_push_size h₁ hTf)
  have keep : ∀ b o, b ≠ e → h₁.get? b = some o → ((h₁.push oT).update e (Obj.mapFields (·.setIfInBounds 1 (Value.ref h₁.objs.size)))).get? b = some o := fun b o hbe hb => by
    rw [Heap.get?_update_other _ _ (Ne.symm hbe)]
    exact Heap.get?_push_of_some _ hb
  have noRecord : ∀ b o, s.heap.get? b = some o → (∀ vs, o.data ≠ .fields vs) → b ≠ e := fun b o hb hnf q => by
    rw [q, he] at hb; injection hb with hb; subst hb; exact hnf ws hd
  refine h _ ⟨fun b o hbo => keep b o (fun q => by rw [q, hen] at hbo; cases hbo) (kb₁ b o hbo), hen, hl.of_keeps fun b o hb hnf => ?_, hsz,
    ⟨_, h₁.objs.size, oT, _, he₃, (Obj.cls_mapFields _ _).trans hc, hd₃, kb₁.fresh, hTe, hT₃, hTd, by first | (simp; done) | (rcases hpl with rfl | ⟨_, _, _, _, _, _, _, rfl⟩ <;> simp)⟩⟩ fun b o hb hnf => ?_
  · obtain ⟨sl, hs⟩ := hs₁.2.2 b o hb
    exact ⟨_, keep b _ (noRecord b o hb hnf) hs, rfl⟩
  · obtain ⟨sl, hs⟩ := hs₁.2.2 b o hb
    exact ⟨sl, keep b _ (noRecord b o hb hnf) hs⟩
/-- a frame is noted first -/
theorem noteA {oe : Obj} (hfr : A.frames = some (env :: outer)) (hl : s.heap.FunFrames B (env :: outer)) (hf : env.frame = some L)
    (he : s.heap.get? e = some oe) (hkb : B.StaysIn s.heap) (hen : B.get? e = none) (hc : oe.cls = .ref C) (hd : oe.data = .fields vs) (hsz : 2 < vs.size) (h1 : vs[1]? = some .none)
    (h : ∀ h', FlyX B (env :: outer) e C vs (rawInt L) h' → s.heap.UpToSlots h' → Q () { s with heap := h' }) : wpAny M A (noteFrame (.ref e) env) Q E s := by
  unfold noteFrame
  simp only [hf]
  refine wpAny_bind (wpAny_field he hd h1 ?_)
  rw [if_neg (by decide)]
  exact entryA hfr hl hf he hkb hen hc hd hsz h
/-- a frame is noted on the way -/
theorem noteB (hfr : A.frames = some (env :: outer)) (hf : env.frame = some L) (x : FlyX B (env :: outer) e C vs .none s.heap)
    (h : ∀ h', FlyX B (env :: outer) e C vs (rawInt L) h' → s.heap.UpToSlots h' → Q () { s with heap := h' }) : wpAny M A (noteFrame (.ref e) env) Q E s := by
  obtain ⟨hkb, hen, hl, hsz, oe, T, oT, ts, he, hc, hd, hnT, hTe, hT, hdT, h3⟩ := x
  unfold noteFrame
  simp only [hf]
  refine wpAny_bind (wpAny_field he hd (x := .ref T) (by simp [Nat.lt_of_succ_lt hsz]) ?_)
  rw [if_pos (show (Value.ref T != Value.none) = true from by simp)]
  refine wpAny_bind (wpAny_field hT hdT h3 ?_)
  rw [if_neg (show ¬ ((Value.none == rawInt L) = true) from by simp [rawInt])]
  refine wpAny_bind (wpAny_setField hT hdT (Array.getElem?_eq_some_iff.mp h3).1 ?_)
  have other : ∀ b, b ≠ T → (s.heap.update T (Obj.mapFields (·.setIfInBounds 3 Value.none))).get? b = s.heap.get? b := fun b hb => Heap.get?_update_other _ _ (Ne.symm hb)
  have noRecord : ∀ b o, s.heap.get? b = some o → (∀ vs, o.data ≠ .fields vs) → b ≠ T := fun b o hb hnf q => by
    rw [q, hT] at hb; injection hb with hb; subst hb; exact hnf ts hdT
  refine entryA hfr (hl.of_keeps fun b o hb hnf => ⟨o, (other b (noRecord b o hb hnf)).trans hb, rfl⟩) hf ((other e (Ne.symm hTe)).trans he)
    (fun b o hbo => (other b fun q => by rw [q, hnT] at hbo; cases hbo).trans (hkb b o hbo)) hen hc hd (by simpa using hsz) fun h' x1 x4 => h h' ⟨x1.base, x1.new, x1.frames, hsz, ?_⟩ fun b o hb hnf => x4 b o ((other b (noRecord b o hb hnf)).trans hb) hnf
  obtain ⟨oe', T', oT', ts', y1, y2, y3, y⟩ := x1.at_
  exact ⟨oe', T', oT', ts', y1, y2, by rw [y3, set_set], y⟩
/-- it is in no frame's flight -/
theorem flightA (x : FlyX B l e C vs fl s.heap) (h : ∀ h', FlyX B l e C vs .none h' → s.heap.UpToSlots h' → Q () { s with heap := h' }) : wpAny M A (setFlight (.ref e) none) Q E s := by
  obtain ⟨hkb, hen, hl, hsz, oe, T, oT, ts, he, hc, hd, hnT, hTe, hT, hdT, h3⟩ := x
  have hsz3 : 3 < ts.size := (Array.getElem?_eq_some_iff.mp h3).1
  have other : ∀ b, b ≠ T → (s.heap.update T (Obj.mapFields (·.setIfInBounds 3 ((none : Option Addr).elim Value.none fun f => rawInt f)))).get? b = s.heap.get? b :=
    fun b hb => Heap.get?_update_other _ _ (Ne.symm hb)
  have noRecord : ∀ b o, s.heap.get? b = some o → (∀ vs, o.data ≠ .fields vs) → b ≠ T := fun b o hb hnf q => by
    rw [q, hT] at hb; injection hb with hb; subst hb; exact hnf ts hdT
  unfold setFlight
  refine wpAny_bind (wpAny_field he hd (x := .ref T) (by simp [Nat.lt_of_succ_lt hsz]) ?_)
  rw [if_pos (show (Value.ref T != Value.none) = true from by simp)]
  refine wpAny_setField hT hdT hsz3 (h _ ⟨fun b o hbo => (other b fun q => by rw [q, hnT] at hbo; cases hbo).trans (hkb b o hbo), hen,
    hl.of_keeps fun b o hb hnf => ⟨o, (other b (noRecord b o hb hnf)).trans hb, rfl⟩, hsz, ?_⟩ fun b o hb hn => ⟨o.slots, (other b (noRecord b o hb hn)).trans hb⟩)
  exact ⟨oe, T, _, _, (other e (Ne.symm hTe)).trans he, hc, hd, hnT, hTe, Heap.get?_update_self _ hT (Obj.isFreed_of_fields (Obj.data_mapFields hdT _)), Obj.data_mapFields hdT _, by simp [hsz3]⟩
end
end Nt

set_option Elab.async false
set_option maxRecDepth 100000
set_option linter.all false
open PySem PySem.W PyProof.Rows PySem.Calls
namespace Nt
set_option genInjectivity false
set_option genSizeOf false

/-- an exception's contexts, one behind the other, to an end -/
inductive Chain (h : Heap) : Value → Nat → Prop
  | nil : Chain h .none 0
  | cons {a : Addr} {o : Obj} {vs : Array Value} {v : Value} {n : Nat} : h.get? a = some o → o.data = .fields vs → vs[2]? = some v → Chain h v n → Chain h (.ref a) (n + 1)
theorem Chain.keeps {h h' : Heap} (k : h.StaysIn h') : ∀ {v : Value} {n : Nat}, Chain h v n → Chain h' v n
  | _, _, .nil => .nil
  | _, _, .cons a b c d => .cons (k _ _ a) b c (d.keeps k)
theorem Chain.there {h : Heap} {a : Addr} {n : Nat} : Chain h (.ref a) n → ∃ o, h.get? a = some o
  | .cons e _ _ _ => ⟨_, e⟩

section
variable {prog : Program} {w : World} {A : Around} {E : Value → Shared → Prop} {R : Result → Shared → Prop} {s : Shared} {e : Addr}
theorem unchain_entry : entryFor table "proto.unchain" = some Builtin.«proto.unchain» := entryFor_of_tree (by kernel_rfl)
theorem unchain_quiet (args : Args) : (Code.builtin "proto.unchain" args).quiet = true := Code.quiet_builtin _ (by decide +kernel)
theorem unchain_ok {h : Heap} (hk : h.StaysIn s.heap) (hn : h.get? e = none) (hR : R (.ok (.ret .none)) s) : ∀ {n m : Nat} {o sl : Value} {b : Bool}, Chain h o (n + 1) → Chain h sl (m + 1) → n ≤ m →
    codeAny (model prog w) A (.builtin "proto.unchain" ⟨[.ref e, o, sl, .bool b], []⟩) R s := by
  intro n
  induction n with
  | zero =>
    intro m o sl b ho hs hnm
    cases ho with
    | cons h1 h2 h3 h4 =>
      cases h4
      refine codeAny_builtinAt unchain_entry ?_
      unfold Builtin.«proto.unchain»
      refine PySem.wpAt_of_wpAny ?_
      refine wpAny_bind (wpAny_field (hk _ _ h1) h2 h3 ?_)
      rw [if_pos (by decide)]
      exact wpAny_pure hR
  | succ n ih =>
    intro m o sl b ho hs hnm
    cases ho with
    | cons h1 h2 h3 h4 =>
      have h5 := h4
      cases h4 with
      | cons g1 g2 g3 g4 =>
        rename_i a2 o2 vs2 v2
        refine codeAny_builtinAt unchain_entry ?_
        unfold Builtin.«proto.unchain»
        refine PySem.wpAt_of_wpAny ?_
        refine wpAny_bind (wpAny_field (hk _ _ h1) h2 h3 ?_)
        rw [if_neg (by simp)]
        have ne : (Value.ref a2 == Value.ref e) = false := by
          refine beq_eq_false_iff_ne.mpr fun q => ?_
          cases q
          rw [hn] at g1; cases g1
        rw [ne]
        simp only [Bool.false_eq_true, if_false]
        split
        · exact wpAny_bind (wpAny_rule (wpAny_pure hR))
        · cases b with
          | false =>
            simp only [Bool.false_eq_true, if_false]
            exact wpAny_bind (wpAny_pure (wpAny_pure ⟨unchain_quiet _, ih h5 hs (by lia)⟩))
          | true =>
            simp only [if_true]
            cases hs with
            | cons k1 k2 k3 k4 =>
              refine wpAny_bind (wpAny_field (hk _ _ k1) k2 k3 ?_)
              obtain ⟨m', rfl⟩ : ∃ m', m = m' + 1 := ⟨m - 1, by lia⟩
              exact wpAny_pure ⟨unchain_quiet _, ih h5 k4 (by lia)⟩
/-- raised while another is handled: that one is its context -/
theorem raiseNew_in {α : Type} {h : Heap} {e₁ : Addr} {o : Obj} {vs : Array Value} {n : Nat} {Q : α → Shared → Prop} (hA : A.handled = some (.ref e₁)) (hk : h.StaysIn s.heap) (hn : h.get? e = none) (hc : Chain h (.ref e₁) (n + 1))
    (he : s.heap.get? e = some o) (hd : o.data = .fields vs) (hsz : 2 < vs.size)
    (hE : ∀ h', (∀ b ob, b ≠ e → s.heap.get? b = some ob → h'.get? b = some ob) → (∃ o', h'.get? e = some o' ∧ o'.cls = o.cls ∧ o'.data = .fields (vs.setIfInBounds 2 (.ref e₁))) → E (.ref e) { s with heap := h' }) :
    wpAny (model prog w) A (raiseNew (.ref e) : Sem α) Q E s := by
  have ne : (Value.ref e₁ != Value.ref e) = true := by
    refine bne_iff_ne.mpr fun q => ?_
    cases q
    obtain ⟨_, q⟩ := hc.there
    rw [hn] at q; cases q
  unfold raiseNew
  refine wpAny_bind (wpAny_handled ?_)
  rw [hA]
  simp only [ne, if_true]
  refine wpAny_bind (wpAny_holding (wpAny_runValue (unchain_ok hk hn ?_ hc hc (Nat.le_refl _))))
  unfold updateField
  refine wpAny_bind (wpAny_bind (wpAny_load he ?_))
  rw [hd]
  simp only [hsz, if_true]
  refine wpAny_update' he ?_
  refine wpAny_throw (hE _ (fun b ob nb eb => (Heap.get?_update_other _ _ (Ne.symm nb)).trans eb) ⟨_, Heap.get?_update_self _ he (Obj.isFreed_of_fields (Obj.data_mapFields hd _)), Obj.cls_mapFields _ _, Obj.data_mapFields hd _⟩)
end

section
variable {M : Model} {A : Around} {E : Value → Shared → Prop} {env : Env} {C G I : Addr}
/-- a raise statement's value is an exception just made -/
theorem raiseStmtX {s : Shared} {x : Sem Value} {Q : Flow → Shared → Prop}
    (h : wpR M A x (fun v s₁ => ∃ e o t, v = .ref e ∧ XCls s₁.heap C G I ∧ s₁.heap.get? e = some o ∧ o.cls = .ref C ∧ o.data = .fields #[.ref t, .none, .none, .none, .bool false, .none] ∧ wpAny M A (raiseNew (.ref e) : Sem Flow) Q E s₁) E s) :
    wpR M A (raiseStmt env (some x) none) Q E s := by
  unfold raiseStmt
  refine wpR_bind (wpR_mono h (fun v s₁ h₁ => ?_) fun _ _ x => x)
  obtain ⟨e, o, t, rfl, X, he, hc, hd, hE⟩ := h₁
  obtain ⟨⟨nm, q, N, bs, sn, sub, ab, col, dd, k0, k1, k2, k3, k5, mN, hC, hn, i1, i2, i3⟩, _⟩ := X
  have hcB : (Value.ref C :: .ref G :: bmE).contains (.type "BaseException") = true := by simp [List.contains_cons]
  obtain ⟨hp, g, d, tk, os⟩ := s₁
  refine wpR_of ?_
  repeat (first | (with_reducible refine wpAny_loadPart_at he ?_; rw [hc]) | with_reducible refine wpAny_loadPart_at hC ?_ | (with_reducible refine wpAny_isSubtype_exc hC ?_; rw [hcB]) | wp_step)
  rw [hd]
  refine wpAny_pure ?_
  refine wpAny_pure ?_
  rw [if_neg (by simp)]
  exact wpAny_pure hE
end
end Nt

set_option Elab.async false
set_option maxRecDepth 100000
set_option linter.all false
open PySem PySem.W PyProof.Rows PySem.Calls
namespace Nt
set_option genInjectivity false
set_option genSizeOf false

noncomputable abbrev Fm.outs (f : Fm) : List Addr := f.outer.filterMap (·.frame)
/-- an exception on its way at a frame -/
structure XAt (f : Fm) (C e : Addr) (h : Heap) : Prop where
  up : f.h₀.UpToSlots h
  at_ : ∃ B vs n x, (∀ a o, f.h₀.get? a = some o → a ∉ f.outs → B.get? a = some o) ∧ B.StaysIn h ∧ B.get? e = none ∧ h.FunFrames B (f.env :: f.outer) ∧ 2 < vs.size ∧ vs[2]? = some x ∧ Chain B x n ∧
    ((∃ oe, h.get? e = some oe ∧ oe.cls = .ref C ∧ oe.data = .fields vs ∧ vs[1]? = some .none) ∨ FlyA h B e C vs .none)

section
variable {W : Wd} {lv : Nat} {f : Fm} {s : Shared} {m : Str → Option Value} {A : Around} {E : Value → Shared → Prop} {C e : Addr} {Q : Unit → Shared → Prop}
theorem Fm.env_frame (f : Fm) : f.env.frame = some f.L := rfl
theorem Fm.frames (ok : f.ok W lv) : f.A.frames = some (f.env :: f.outer) := by rw [ok.dA]; exact Around.frames_deeper ok.B.stack
/-- an exception is noted in its frame -/
theorem XAt.note {M : Model} (ok : f.ok W lv) (x : XAt f C e s.heap) (hq : ∀ h' B vs n y fl, (∀ a o, f.h₀.get? a = some o → a ∉ f.outs → B.get? a = some o) → FlyX B (f.env :: f.outer) e C vs fl h' → vs[2]? = some y → Chain B y n → f.h₀.UpToSlots h' → Q () { s with heap := h' }) :
    wpAny M f.A (noteFrame (.ref e) f.env) Q E s := by
  obtain ⟨B, vs, n, y, k, b, ne, ff, sz, h2, hc, x1⟩ := x.at_
  rcases x1 with ⟨oe, he, hcl, hd, h1⟩ | x1
  · exact noteA (Fm.frames ok) ff rfl he b ne hcl hd sz h1 fun h' z u => hq h' B vs n y _ k z h2 hc (x.up.trans u)
  · exact noteB (Fm.frames ok) rfl ⟨b, ne, ff, sz, x1⟩ fun h' z u => hq h' B vs n y _ k z h2 hc (x.up.trans u)
/-- an exception leaves a callee's frame -/
theorem XAt.leave {M : Model} {a : Addr} {q : Str} {scope : Scope} {cd : Value} {h₁ : Heap} (ok : f.ok W (lv + 1)) (F : Fr f.h₀ f.L s.heap m) (hk : scope.kind = .function) {s₂ : Shared} (x : XAt (f.call s.heap a q scope cd) C e s₂.heap)
    (hq : ∀ h', XAt f C e h' → Q () { s₂ with heap := h' }) : wpAny M (f.call s.heap a q scope cd).A (leaving (f.call s.heap a q scope cd).env (.ref e)) Q E s₂ := by
  have ok' := Fm.call_ok (a := a) (q := q) (scope := scope) (cd := cd) ok F hk
  unfold leaving
  refine wpAny_bind (x.note ok' fun h1 B vs n y fl k z h2 hc u => ?_)
  refine flightA (s := { s₂ with heap := h1 }) z fun h2' z2 u2 => ?_
  refine hq h2' ⟨(Heap.UpToSlots.of_keeps F.keep).trans (u.trans u2), B, vs, n, y, fun a o e1 e2 => ?_, z2.base, z2.new, z2.frames.2.2, z2.sz, h2, hc, .inr z2.at_⟩
  refine k a o (F.keep a o e1) fun hm => ?_
  have hm : a ∈ (f.env :: f.outer).filterMap (·.frame) := hm
  rw [List.filterMap_cons, Fm.env_frame] at hm
  rcases List.mem_cons.mp hm with rfl | hm
  · exact Nat.lt_irrefl _ (Nat.lt_of_lt_of_le (Heap.lt_size e1) F.above)
  · exact e2 hm
/-- an exception made here -/
theorem XAt.made {h₁ h₂ : Heap} {t : Value} (ok : f.ok W lv) (F : Fr f.h₀ f.L h₁ m) (k : h₁.StaysIn h₂) (hn : h₁.get? e = none) (he : ∃ o, h₂.get? e = some o ∧ o.cls = .ref C ∧ o.data = .fields #[t, .none, .none, .none, .bool false, .none]) : XAt f C e h₂ := by
  obtain ⟨o, e1, e2, e3⟩ := he
  have B := Fm.pushB ok F
  refine ⟨Heap.UpToSlots.of_keeps fun b o e => k b o (F.keep b o e), hideAll h₁ (f.L :: f.outs), _, 0, .none, fun a o q1 q2 => hideAll_get _ (F.keep _ _ q1) fun hm => ?_, fun a o q => k _ _ (of_hideAll _ q), ?_, ?_, by simp, rfl, .nil, .inl ⟨o, e1, e2, e3, rfl⟩⟩
  · rcases List.mem_cons.mp hm with rfl | hm
    · exact Nat.lt_irrefl _ (Nat.lt_of_lt_of_le (Heap.lt_size q1) F.above)
    · exact q2 hm
  · cases q : (hideAll h₁ (f.L :: f.outs)).get? e with
    | none => rfl
    | some o => rw [of_hideAll _ q] at hn; cases hn
  · refine Heap.FunFrames.of_keeps (h := h₁) (fun b o q _ => ⟨o, k _ _ q, rfl⟩) (funFrames_hide B.frames fun env he a ha => ?_)
    rcases List.mem_cons.mp he with rfl | he
    · rw [Fm.env_frame] at ha; cases ha; exact .head _
    · exact .tail _ (List.mem_filterMap.mpr ⟨env, he, ha⟩)
end
end Nt

set_option Elab.async false
set_option maxRecDepth 100000
set_option linter.all false
open PySem PySem.W PyProof.Rows PySem.Calls
namespace Nt
set_option genInjectivity false
set_option genSizeOf false

/-- a name that holds an exception class of the text -/
structure XN (W : Wd) (x : Str) (C : Addr) : Prop where
  nm : nsIn W.K mainGlobals x = some (some (.ref C))
  nd : (x == ("__debug__" : Str)) = false
  cls : ∃ G I q p1 p2 p3 p4 scope cd, (∀ h, W.K.In h → XCls h C G I) ∧ DefIs W I q [.Assign [.Attribute (.Name "self" p1) "told" p2] (.Name "told" p3) p4] scope ["self", "told"] cd ∧ ∃ ob, W.K.lookup I = some ob ∧ ob.cls = .type "function"

section
variable {W : Wd} {lv : Nat} {f : Fm} {s : Shared} {m : Str → Option Value} {A : Around} {E : Value → Shared → Prop} {C e : Addr} {env : Env} {x : Str} {np cpos pos : Pos} {args : List Expr} {T : Tb} {n : Nat} {scope : Scope} {cel loc : Loc} {own : List Str} {rest : List Stmt} {K : Out → Prop}
theorem XN.keeper (X : XN W x C) {h : Heap} (hK : W.K.In h) : ∃ k, (k = Keeper.frame ∨ k = Keeper.machine ∨ k = Keeper.boundFrame) ∧ Looks (model W.prog W.w) h (keeperOf (.ref C)) k := by
  obtain ⟨G, I, q, p1, p2, p3, p4, scope, cd, hX, _⟩ := X.cls
  refine ⟨.machine, .inr (.inl rfl), fun A Q E s k hq => ?_⟩
  obtain ⟨⟨nm, q, N, bs, sn, sub, ab, col, dd, k0, k1, k2, k3, k5, mN, hC, _⟩, _⟩ := hX _ (hK.keeps k)
  obtain ⟨hp, g, d, tk, os⟩ := s
  exact wpAny_keeperOf_exc hC hq
theorem raise_core {Q : Flow → Shared → Prop} (X : XN W x C) (room : A.depth + 1 < recursionLimit) (hplain : (backTo cpos (starEach args env)).any (·.1) = false)
    (h : wpR (model W.prog W.w) A (eval (.Name x np) env) (fun fv s₁ => fv = .ref C ∧ wpR (model W.prog W.w) A (spliced (backTo cpos (starEach args env))) (fun vs s₂ => ∃ v, vs = [v] ∧ W.K.In s₂.heap ∧ s₂.heap.NoLimit ∧
      ∀ h' e tk, Made s₂.heap h' e C → wpAny (model W.prog W.w) A (raiseNew (.ref e) : Sem Flow) Q E ⟨h', s₂.gens, s₂.drawn, tk, s₂.os⟩) E s₁) E s) :
    wpR (model W.prog W.w) A (exec (.Raise (some (.Call (.Name x np) args [] cpos)) none pos) env) Q E s := by
  obtain ⟨G, I, q, p1, p2, p3, p4, sc, cd, hX, D, hfc⟩ := X.cls
  rw [arm_exec_Raise]
  refine wpR_bind (wpR_standAt (raiseStmtX (C := C) (G := G) (I := I) ?_))
  refine wpR_bind (callNameR (wpR_mono h (fun fv s₁ h₁ => ?_) fun _ _ x => x))
  obtain ⟨rfl, h₁⟩ := h₁
  refine callWithR (P := fun h => W.K.In h) hplain (fun h hK => X.keeper hK) (wpR_mono h₁ (fun vs s₂ h₂ => ?_) fun _ _ x => x)
  obtain ⟨v, rfl, hK, hlim, hr⟩ := h₂
  obtain ⟨hp, g, d, tk, os⟩ := s₂
  refine ⟨hK, wpR_of (call_excX D (hX _ hK) hK hfc hlim room fun h' e tk hm => ?_)⟩
  obtain ⟨o, t, e1, e2, e3⟩ := hm.there
  exact wpR_bind (wpR_standAt (wpR_pure ⟨e, o, t, rfl, (hX _ hK).keeps hm.keeps, e1, e2, e3, hr h' e tk hm⟩))
theorem Runs.raise {p : PV} {c : Cond} {arg : Expr} (hT : TbOk W (lv + 2) T) (X : XN W x C) (hg : scope.names.lookup x = some .globalImplicit) (e1 : evs (ev T n).1 ⟨scope.names, cel⟩ loc [arg] = some ([p], c)) (hc : c.holds) (hK : K (.exc C)) :
    Runs XAt W (lv + 2) scope cel loc own (.Raise (some (.Call (.Name x np) [arg] [] cpos)) none pos :: rest) K := by
  intro f m s Q E C0 P
  have hst := evs_star e1
  refine execsR_cons (raise_core X ?_ (any_star hst) (wpR_of (Name_function_global C0.env.k (C0.env.gl x hg) (loadGlobal_global C0.env.nsG (mg_of C0.ok.X C0.ok.T.g X.nm) ⟨rfl, ?_⟩) X.nd)))
  · have := C0.ok.rd
    show f.dp + 1 < _
    lia
  · refine evs_ok (ev_ok hT n).1 [arg] _ _ e1 hc f f.env s cpos _ E C0.env fun vs h' tk k r => ?_
    obtain ⟨v, r', rfl, r1, r2⟩ := r
    cases (show r' = [] from r2)
    have z := Nx.of_stays (tk := tk) C0 k
    refine ⟨v, rfl, z.ok.env.heapK, C0.ok.T.nolimit.keeps z.ok.fr.keep, fun h₂ e tk₂ hm => wpAny_raiseNew_none rfl ?_⟩
    obtain ⟨o, t, q⟩ := hm.there
    exact (P.exc C hK).2 e h₂ tk₂ (XAt.made z.ok.ok z.ok.fr hm.keeps hm.new ⟨o, q⟩)
end
end Nt

set_option Elab.async false
set_option maxRecDepth 100000
set_option linter.all false
open PySem PySem.W PyProof.Rows PySem.Calls
namespace Nt
set_option genInjectivity false
set_option genSizeOf false

section
variable {W : Wd} {lv : Nat} {f : Fm} {s : Shared} {m : Str → Option Value} {A : Around} {E : Value → Shared → Prop} {C C₂ e : Addr} {env : Env} {x y : Str} {np yp cpos pos hpos rpos lp : Pos} {args : List Expr} {T : Tb} {n : Nat} {scope : Scope} {cel loc : Loc} {own : List Str} {rest : List Stmt} {K Kb : Out → Prop} {t : Str} {kd : Nat}
/-- a raise with a written text, in wpAny -/
theorem raise_lit {Q : Flow → Shared → Prop} (X : XN W x C) (room : A.depth + 1 < recursionLimit) (hK : W.K.In s.heap) (hlim : s.heap.NoLimit)
    (hn : ∀ (s₁ : Shared) (Q : Value → Shared → Prop) (E : Value → Shared → Prop), s₁.heap = s.heap → Q (.ref C) s₁ → wpAny (model W.prog W.w) A (eval (.Name x np) env) Q E s₁)
    (h : ∀ h' e tk, Made s.heap h' e C → wpAny (model W.prog W.w) A (raiseNew (.ref e) : Sem Flow) Q E ⟨h', s.gens, s.drawn, tk, s.os⟩) :
    wpAny (model W.prog W.w) A (exec (.Raise (some (.Call (.Name x np) [.Constant (.str t) kd lp] [] cpos)) none pos) env) Q E s := by
  refine cps fun Z fin => ?_
  obtain ⟨G, I, q, p1, p2, p3, p4, sc, cd, hX, D, hfc⟩ := X.cls
  have X1 := hX _ hK
  obtain ⟨⟨nm, q', N, bs, sn, sub, ab, col, dd, k0, k1, k2, k3, k5, mN, hC, _⟩, _⟩ := id X1
  refine fin ?_
  have hcB : (Value.ref C :: .ref G :: bmE).contains (.type "BaseException") = true := by simp [List.contains_cons]
  rw [arm_exec_Raise]
  refine wpAny_bind (wpAny_standAt ?_)
  unfold raiseStmt
  refine wpAny_bind ?_
  refine wpAny_bind (wpAny_Call_ofName (hn _ _ _ rfl ?_))
  unfold callWith
  refine wpAny_bind (wpAny_holding (evalArgs_plain (x := eval (.Constant (.str t) kd lp) env) (rest := []) (spliced_cons (Constant_str (wpAny_pure (wpAny_bind (wpAny_standAt ?_)))))))
  refine wpAny_bind (wpAny_keeperOf_exc (h := s.heap) (g := s.gens) (d := s.drawn) (os := s.os) hC ?_)
  refine wpAny_bind ?_
  refine call_excX D X1 hK hfc hlim room fun h' e tk hm => ?_
  refine wpAny_bind (wpAny_holding (wpAny_point (wpAny_pure (wpAny_bind (wpAny_standAt (wpAny_pure ?_))))))
  have hC' := hm.keeps _ _ hC
  refine cps fun Z fin => ?_
  obtain ⟨o, tt, he, hc, hd⟩ := hm.there
  refine fin ?_
  repeat (first | (with_reducible refine wpAny_loadPart_at he ?_; rw [hc]) | with_reducible refine wpAny_loadPart_at hC' ?_ | (with_reducible refine wpAny_isSubtype_exc hC' ?_; rw [hcB]) | wp_step)
  rw [hd]
  refine wpAny_pure ?_
  refine wpAny_pure ?_
  rw [if_neg (by simp)]
  exact wpAny_pure (h h' e tk hm)
theorem base_in (ok : f.ok W lv) {B : Heap} (k : ∀ a o, f.h₀.get? a = some o → a ∉ f.outs → B.get? a = some o) : f.base.StaysIn B := fun a o q =>
  k a o (ok.B.stays a o q) fun hm => by rw [(ok.B.frames.mem hm).1] at q; cases q
/-- a clause that catches and raises another -/
theorem caught_raise {Q : Flow → Shared → Prop} (ok : f.ok W (lv + 2)) (ab : f.h₀.objs.size ≤ f.L) (x1 : XAt f C e s.heap) (X : XN W x C) (Y : XN W y C₂) (gx : f.env.kindOf x = some .globalImplicit) (gy : f.env.kindOf y = some .globalImplicit)
    (P1 : ∀ hd, PassesOwnAt (model W.prog W.w) (f.A.mark hd) f.A f.env E) (P2 : ∀ e h' tk, XAt f C₂ e h' → E (.ref e) ⟨h', s.gens, s.drawn, tk, s.os⟩) :
    wpAny (model W.prog W.w) f.A (noteFrame (.ref e) f.env) (fun _ s₂ => wpAny (model W.prog W.w) f.A (setFlight (.ref e) none) (fun _ s₃ => wpAny (model W.prog W.w) f.A
      (handleBy (.ref e) f.env [.ExceptHandler (some (.Name x np)) none [.Raise (some (.Call (.Name y yp) [.Constant (.str t) kd lp] [] cpos)) none rpos] hpos]) Q E s₃) E s₂) E s := by
  refine x1.note ok fun h1 B vs n v fl k z hv hc u => ?_
  refine flightA (s := { s with heap := h1 }) z fun h2 z2 u2 => ?_
  have nameAt : ∀ {A : Around} {x : Str} {C : Addr} {np : Pos} {h : Heap} (X : XN W x C) (gx : f.env.kindOf x = some .globalImplicit) (kb : f.base.StaysIn h) (s₁ : Shared) (Q : Value → Shared → Prop) (E : Value → Shared → Prop), s₁.heap = h → Q (.ref C) s₁ → wpAny (model W.prog W.w) A (eval (.Name x np) f.env) Q E s₁ := by
    intro A x C np h X gx kb s₁ Q E e q
    subst e
    exact Name_function_global ok.k gx (loadGlobal_global (ok.TB.g.keeps kb) (mg_of ok.XB ok.TB.g X.nm) q) X.nd
  have kb : f.base.StaysIn h2 := stays_trans (base_in ok k) z2.base
  refine cps fun Z fin => ?_
  obtain ⟨G, I, q, p1, p2, p3, p4, sc, cd, hX, D, hfc⟩ := X.cls
  have hK := ok.XB.keeps kb
  have X1 := hX _ hK
  obtain ⟨oe, T, oT, ts, he, hcl, hd, a1, a2, a3, a4, a5⟩ := z2.at_
  obtain ⟨⟨nm, q', N, bs, sn, sub, ab', col, dd, k0, k1, k2, k3, k5, mN, hC, _⟩, _⟩ := id X1
  refine fin ?_
  have hcB : (Value.ref G :: bmE).contains (.type "BaseException") = true := by simp [List.contains_cons]
  refine wpAny_handleBy_cons (codeAny_handlers_test (nameAt X gx kb ⟨h2, s.gens, s.drawn, s.toks, s.os⟩ _ _ rfl ?_)) (by intro q; cases q)
  refine wpAny_excMatches_sub_self hC he hcl hcB (codeAny_handlers_suite ?_)
  refine flightA (s := ⟨h2, s.gens, s.drawn, s.toks, s.os⟩) z2 fun h3 z3 u3 => ?_
  have kb3 : f.base.StaysIn h3 := stays_trans (base_in ok k) z3.base
  refine wpAny_execs_cons (raise_lit Y ?_ (ok.XB.keeps kb3) (ok.TB.nolimit.keeps kb3) (nameAt Y gy kb3) fun h4 e2 tk hm => ?_)
  · have := ok.rd
    show f.dp + 1 < _
    lia
  refine cps fun Z fin => ?_
  obtain ⟨oe3, T3, oT3, ts3, he3, hcl3, hd3, b1, b2, b3, b4, b5⟩ := z3.at_
  have hch : Chain h3 (.ref e) (n + 1) := .cons he3 hd3 (by simp [hv]) (hc.keeps z3.base)
  obtain ⟨o2, tt, g1, g2, g3⟩ := hm.there
  refine fin ?_
  refine raiseNew_in (s := ⟨h4, s.gens, s.drawn, tk, s.os⟩) rfl hm.keeps hm.new hch g1 g3 (by simp) fun h5 r1 r2 => P1 (some (.ref e)) _ _ (P2 e2 h5 tk ?_)
  obtain ⟨o5, r3, r4, r5⟩ := r2
  have ne2 : ∀ b o, h3.get? b = some o → b ≠ e2 := fun b o q e => by rw [e, hm.new] at q; cases q
  have k5 : h3.StaysIn h5 := fun b o q => r1 b o (ne2 b o q) (hm.keeps b o q)
  have nL : f.h₀.get? f.L = none := Heap.get?_none_of_le ab
  refine ⟨((u.trans u2).trans u3).trans (Heap.UpToSlots.of_keeps k5), hideAll h3 (f.L :: f.outs), _, n + 1, .ref e, fun a o q1 q2 => hideAll_get _ (z3.base _ _ (k a o q1 q2)) fun hm => ?_, fun a o q => k5 _ _ (of_hideAll _ q), ?_, ?_, ?_, ?_, ?_, .inl ⟨o5, r3, r4.trans g2, r5, ?_⟩⟩
  · rcases List.mem_cons.mp hm with rfl | hm
    · rw [nL] at q1; cases q1
    · exact q2 hm
  · cases q : (hideAll h3 (f.L :: f.outs)).get? e2 with
    | none => rfl
    | some o => have := of_hideAll _ q; rw [hm.new] at this; cases this
  · refine Heap.FunFrames.of_keeps (h := h3) (fun b o q _ => ⟨o, k5 _ _ q, rfl⟩) (funFrames_hide z3.frames fun env he a ha => ?_)
    rcases List.mem_cons.mp he with rfl | he
    · rw [Fm.env_frame] at ha; cases ha; exact .head _
    · exact .tail _ (List.mem_filterMap.mpr ⟨env, he, ha⟩)
  · simp
  · simp
  · have hne : e ∉ f.L :: f.outs := fun hmm => by
      have hmm : e ∈ (f.env :: f.outer).filterMap (·.frame) := by rw [List.filterMap_cons, Fm.env_frame]; exact hmm
      obtain ⟨_, o, ho, hnf⟩ := z3.frames.mem hmm
      rw [he3] at ho; injection ho with ho; subst ho; exact hnf _ hd3
    have inB : ∀ {v : Value} {n : Nat}, Chain B v n → Chain (hideAll h3 (f.L :: f.outs)) v n := by
      intro v n c
      induction c with
      | nil => exact .nil
      | @cons a3 o3 _ _ _ c1 c2 c3 _ ih =>
        refine .cons (hideAll_get _ (z3.base _ _ c1) fun hmm => ?_) c2 c3 ih
        have hmm : a3 ∈ (f.env :: f.outer).filterMap (·.frame) := by rw [List.filterMap_cons, Fm.env_frame]; exact hmm
        rw [(z3.frames.mem hmm).1] at c1; cases c1
    exact .cons (hideAll_get _ he3 hne) hd3 (by simp [hv]) (inB hc)
  · simp
end
end Nt

set_option Elab.async false
set_option maxRecDepth 100000
set_option linter.all false
open PySem PySem.W PyProof.Rows PySem.Calls
namespace Nt
set_option genInjectivity false
set_option genSizeOf false

/-- what a call may come to -/
noncomputable def CallXOk (W : Wd) (lv : Nat) (fv : Value) (dom : List PV → Prop) (KK : List PV → Out → Prop) : Prop :=
  ∀ (f : Fm) (s : Shared) (m : Str → Option Value) (ps : List PV) (vs : List Value) (Q E : Value → Shared → Prop), f.ok W lv → Fr f.h₀ f.L s.heap m → Reps [] s.heap ps vs → dom ps →
    (∀ p, KK ps (.ret p) → Gv s p Q) → (∀ C, KK ps (.exc C) → ∀ e h' tk, XAt f C e h' → E (.ref e) ⟨h', s.gens, s.drawn, tk, s.os⟩) → wpR (model W.prog W.w) f.A (call fv vs) Q E s
noncomputable def MethXOk (W : Wd) (lv : Nat) (x : Str) (o : PV) (dom : List PV → Prop) (KK : List PV → Out → Prop) : Prop :=
  ∀ (f : Fm) (s : Shared) (v : Value) (pl : Sem Bool) (Q' : Value × List Value → Shared → Prop) (E' : Value → Shared → Prop), f.ok W lv → (∃ m, Fr f.h₀ f.L s.heap m) → Rep [] s.heap o v →
    (∀ fx : Value × List Value, Keeps' W fx.1 → (∀ (s' : Shared) (m : Str → Option Value) (ps : List PV) (us : List Value) (Q E : Value → Shared → Prop), Fr f.h₀ f.L s'.heap m → s.heap.StaysIn s'.heap → Reps [] s'.heap ps us → dom ps →
      (∀ p, KK ps (.ret p) → Gv s' p Q) → (∀ C, KK ps (.exc C) → ∀ e h' tk, XAt f C e h' → E (.ref e) ⟨h', s'.gens, s'.drawn, tk, s'.os⟩) →
      wpR (model W.prog W.w) f.A (call fx.1 (fx.2 ++ us)) Q E s') → Q' fx s) →
    wpAny (model W.prog W.w) f.A (getMethod v x pl) Q' E' s

section
variable {W : Wd} {lv : Nat} {f : Fm} {s : Shared} {m : Str → Option Value} {C C₂ e : Addr} {env : Env} {x y : Str} {np yp cpos pos hpos rpos lp xp tp : Pos} {args : List Expr} {T : Tb} {n : Nat} {scope : Scope} {cel loc : Loc} {own : List Str} {rest body : List Stmt} {K Kb : Out → Prop} {t : Str} {kd : Nat} {dom : List PV → Prop} {KK : List PV → Out → Prop} {fv : Value}
theorem CallXOk.ret (h : CallXOk W lv fv dom KK) {sp : Spec} (hs : ∀ ps p c, sp ps = some (p, c) → c.holds → dom ps ∧ ∀ o, KK ps o → o = .ret p) : CallOk W lv fv sp := by
  intro f s ps vs Q E ok ⟨m, F⟩ r p c e hc g
  obtain ⟨hd, ho⟩ := hs ps p c e hc
  exact h f s m ps vs Q E ok F r hd (fun q hq => by cases ho _ hq; exact g) fun C hC => by cases ho _ hC
theorem Fm.ok.mono {lv' : Nat} (h : f.ok W lv') (hl : lv ≤ lv') : f.ok W lv :=
  ⟨h.B, h.X, h.T, h.k, by have := h.rd; lia, by have := h.ru; lia, h.dA, h.XB, h.TB⟩
theorem CallOk.mono {lv' : Nat} {sp : Spec} (h : CallOk W lv fv sp) (hl : lv ≤ lv') : CallOk W lv' fv sp := fun f s ps vs Q E ok => h f s ps vs Q E (ok.mono hl)
theorem CallXOk.mono {lv' : Nat} (h : CallXOk W lv fv dom KK) (hl : lv ≤ lv') : CallXOk W lv' fv dom KK := fun f s m ps vs Q E ok => h f s m ps vs Q E (ok.mono hl)
/-- a def that may raise -/
theorem fnX_ok {a : Addr} {q : Str} {scope : Scope} {names : List Str} {cd : Value} (D : DefIs W a q body scope names cd) (nd : names.Nodup)
    (h : ∀ ps, dom ps → ps.length = names.length ∧ (∀ l o, ¬ KK ps (.next l o)) ∧ Runs XAt W lv scope [] (names.zip ps) [] body (KK ps)) : CallXOk W (lv + 1) (.ref a) dom KK := by
  intro f s m ps vs Q E ok F hr hd g1 g2
  obtain ⟨hl, hN, hR⟩ := h ps hd
  refine call_def D nd ok F hr hl fun f' m' s' hf hg hdr hos st => ?_
  subst hf
  refine hR _ _ _ _ _ st ⟨fun l o _ _ _ k => absurd k (hN l o), fun p v m₂ h₂ tk k F₂ r₂ => ?_, fun C k => ⟨fun hd => PassesOwnAt.leaving, fun e h' tk hx => ?_⟩⟩
  · rw [hg, hdr, hos]
    exact g1 p k v h₂ tk (fun b o e => F₂.keep b o e) r₂
  · rw [hg, hdr, hos]
    exact XAt.leave (h₁ := h') (s₂ := ⟨h', s.gens, s.drawn, tk, s.os⟩) ok F D.kind hx fun h₂ hx₂ => g2 C k e h₂ tk hx₂

/-- an expression that raises -/
noncomputable def RaisesE (W : Wd) (lv : Nat) (sc : Sc) (loc : Loc) (e : Expr) (C : Addr) : Prop :=
  ∀ (f : Fm) (s : Shared) (Q E : Value → Shared → Prop), EnvOk W lv f sc loc f.env s → (∀ e h' tk, XAt f C e h' → E (.ref e) ⟨h', s.gens, s.drawn, tk, s.os⟩) → wpR (model W.prog W.w) f.A (eval e f.env) Q E s
theorem name_fn {sc : Sc} (hn : NameIs W x fv) (hg : sc.names.lookup x = some .globalImplicit) (hd : (x == ("__debug__" : Str)) = false) {Q E : Value → Shared → Prop} (C0 : EnvOk W lv f sc loc env s) (q : Q fv s) : wpR (model W.prog W.w) f.A (eval (.Name x np) env) Q E s := by
  rcases hn with hn | ⟨hn1, hn2, hn3⟩
  · exact wpR_of (Name_function_global C0.k (C0.gl x hg) (loadGlobal_global C0.nsG (mg_of C0.ok.X C0.ok.T.g hn) q) hd)
  · exact wpR_of (Name_function_global C0.k (C0.gl x hg) (loadGlobal_builtin C0.nsG (mg_none_of C0.ok.X C0.ok.T.g hn1) C0.nsB ((C0.ok.T.builtins x hn3).trans hn2) q) hd)
theorem raise_call {sc : Sc} {ps : List PV} {c : Cond} (hT : TbOk W lv T) (hn : NameIs W x fv) (hk : Keeps' W fv) (hco : CallXOk W lv fv dom KK) (hg : sc.names.lookup x = some .globalImplicit) (hd : (x == ("__debug__" : Str)) = false)
    (e1 : evs (ev T n).1 sc loc args = some (ps, c)) (hc : c.holds) (hD : dom ps) (ho : ∀ o, KK ps o → o = .exc C) : RaisesE W lv sc loc (.Call (.Name x np) args [] cpos) C := by
  intro f s Q E C0 g
  have hst := evs_star e1
  refine callNameR (name_fn hn hg hd C0 (callWithR (P := fun h => W.K.In h) (any_star hst) hk (evs_ok (ev_ok hT n).1 args ps c e1 hc f f.env s cpos _ E C0 fun vs h1 tk1 k1 r1 => ⟨(C0.stays (tk := tk1) k1).heapK, ?_⟩)))
  obtain ⟨m, F⟩ := (C0.stays (tk := tk1) k1).fr
  exact hco f _ m ps vs Q E C0.ok F r1 hD (fun p hp => by cases ho _ hp) fun C' hC' e h' tk hx => by cases ho _ hC'; exact g e h' tk hx
theorem raise_meth {sc : Sc} {ps : List PV} {c c' : Cond} {o : Expr} {po : PV} (hT : TbOk W lv T) (hm : MethXOk W lv x po dom KK) (hb : (!bareCall o && np.endLine == cpos.line && Nat.blt args.length 30) = true) (e0 : (ev T n).1 sc loc o = some (po, c')) (hc' : c'.holds)
    (e1 : evs (ev T n).1 sc loc args = some (ps, c)) (hc : c.holds) (hD : dom ps) (ho : ∀ o, KK ps o → o = .exc C) : RaisesE W lv sc loc (.Call (.Attribute o x np) args [] cpos) C := by
  intro f s Q E C0 g
  have hst := evs_star e1
  rw [Bool.and_eq_true, Bool.and_eq_true] at hb
  obtain ⟨⟨hb1, hb2⟩, hb3⟩ := hb
  obtain ⟨pl, heq⟩ := meth_eq (env := f.env) (o := o) (x := x) (by simpa using hb1) (by simpa using hb2) hst (Nat.le_of_ble_eq_true hb3)
  refine methodR (pl := pl) ((ev_ok hT n).1 _ _ o po c' e0 hc' f f.env s _ E C0 fun v h1 tk1 k1 r1 => ?_) heq
  have C1 := C0.stays (tk := tk1) k1
  refine hm f _ v pl _ E C0.ok C1.fr r1 fun fx hfx hcall => ?_
  refine callWithR (P := fun h => W.K.In h) (any_star hst) hfx (evs_ok (ev_ok hT n).1 args ps c e1 hc f f.env _ cpos _ E C1 fun vs h2 tk2 k2 r2 => ⟨(C1.stays (tk := tk2) k2).heapK, ?_⟩)
  obtain ⟨m, F⟩ := (C1.stays (tk := tk2) k2).fr
  exact hcall _ m ps vs Q E F k2 r2 hD (fun p hp => by cases ho _ hp) fun C' hC' e h' tk hx => by cases ho _ hC'; exact g e h' tk hx
/-- an assignment whose value raises -/
theorem Runs.excAssign {t : Expr} {e : Expr} (h : RaisesE W lv ⟨scope.names, cel⟩ loc e C) (hcomp : isComp e = false) (hK : K (.exc C)) : Runs XAt W lv scope cel loc own (.Assign [t] e pos :: rest) K := by
  intro f m s Q E C0 P
  refine execsR_cons ?_
  rw [arm_exec_Assign]
  refine wpR_bind (wpR_standAt ?_)
  show wpR _ _ (swapsWith e (some t) pos.line f.env >>= _) _ E s
  rw [swaps_plain hcomp]
  refine wpR_bind (wpR_pure ?_)
  simp only [Bool.false_eq_true, if_false]
  exact wpR_bind (h f s _ E C0.env fun e h' tk hx => (P.exc C hK).2 e h' tk hx)
theorem Runs.excAug {e : Expr} {op : Operator} {p : PV} (h : RaisesE W lv ⟨scope.names, cel⟩ loc e C) (hx : scope.names.lookup x = some .local) (hl : loc.lookup x = some p) (hK : K (.exc C)) : Runs XAt W lv scope cel loc own (.AugAssign (.Name x xp) op e pos :: rest) K := by
  intro f m s Q E C0 P
  refine execsR_cons ?_
  rw [arm_exec_AugAssign]
  refine wpR_bind (wpR_standAt ?_)
  obtain ⟨v, e1, e2⟩ := C0.lc x p hl
  refine wpR_bindA (wpAny_loadName_local C0.ok.k (C0.env.lo x hx) C0.fr.ns e1 ?_)
  exact wpR_bind (wpR_holding (h f s _ E C0.env fun e h' tk hx => (P.exc C hK).2 e h' tk hx))
/-- a try with one clause that raises another -/
theorem Runs.tryR (X : XN W x C) (Y : XN W y C₂) (gx : scope.names.lookup x = some .globalImplicit) (gy : scope.names.lookup y = some .globalImplicit) (hb : Runs XAt W (lv + 2) scope cel loc own body Kb)
    (h1 : ∀ l o, Kb (.next l o) → Runs XAt W (lv + 2) scope cel l o rest K) (h2 : ∀ p, Kb (.ret p) → K (.ret p)) (h3 : ∀ C', Kb (.exc C') → C' = C ∧ K (.exc C₂)) :
    Runs XAt W (lv + 2) scope cel loc own (.Try body [.ExceptHandler (some (.Name x np)) none [.Raise (some (.Call (.Name y yp) [.Constant (.str t) kd lp] [] cpos)) none rpos] hpos] [] [] pos :: rest) K := by
  intro f m s Q E C0 P
  refine execsR_cons ?_
  rw [arm_exec_Try]
  refine wpR_bind (wpR_standAt ?_)
  unfold tryStmt
  refine wpR_bind (wpR_attempt (wpR_mono (hb f m s (fun fl s₁ => wpR (model W.prog W.w) f.A (match fl with | .next => execs [] f.env | fl => pure fl) (fun fl s' => match fl with | .next => wpR (model W.prog W.w) f.A (execs rest f.env) Q E s' | fl => Q fl s') E s₁)
    (fun e s₁ => wpAny (model W.prog W.w) f.A (noteFrame e f.env) (fun _ s₂ => wpAny (model W.prog W.w) f.A (setFlight e none) (fun _ s₃ => wpAny (model W.prog W.w) f.A
      (handleBy e f.env [.ExceptHandler (some (.Name x np)) none [.Raise (some (.Call (.Name y yp) [.Constant (.str t) kd lp] [] cpos)) none rpos] hpos]) (fun fl s' => match fl with | .next => wpR (model W.prog W.w) f.A (execs rest f.env) Q E s' | fl => Q fl s') E s₃) E s₂) E s₁)
    C0 ⟨fun l o m' h' tk k z => ?_, fun p v m' h' tk k F r => ?_, fun C' k => ⟨fun hd => PassesOwnAt.looking, fun e h' tk hx => ?_⟩⟩) (fun fl s₁ h => ?_) fun e s₁ h => ?_))
  · exact wpR_pure (h1 l o k f m' _ Q E z.ok (P.after z))
  · exact wpR_pure (P.ret p v m' h' tk (h2 p k) F r)
  · obtain ⟨rfl, hK⟩ := h3 C' k
    exact caught_raise (s := ⟨h', s.gens, s.drawn, tk, s.os⟩) C0.ok C0.fr.above hx X Y (C0.env.gl x gx) (C0.env.gl y gy) (P.exc _ hK).1 fun e h' tk hx => (P.exc _ hK).2 e h' tk hx
  · cases fl <;> exact h
  · exact wpR_of (wpAny_bind (wpAny_mono h (fun _ _ h2 => wpAny_bind h2) fun _ _ x => x))
end
end Nt

set_option Elab.async false
set_option maxRecDepth 100000
set_option linter.all false
open PySem PySem.W PyProof.Rows PySem.Calls
namespace Nt
set_option genInjectivity false
set_option genSizeOf false

/-- specs by the kinds of the arguments -/
noncomputable def tE (a : Option (PV × Cond)) : Spec
  | [] => a
  | _ => none
noncomputable def tB (k : List UInt8 → Spec) : Spec
  | p :: r => with_ p.bytes? fun b => k b.1 r
  | [] => none
noncomputable def tI (k : Int → Spec) : Spec
  | p :: r => with_ p.int? fun b => k b.1 r
  | [] => none
noncomputable def tS (k : Str → Spec) : Spec
  | p :: r => with_ p.str? fun b => k b.1 r
  | [] => none
noncomputable def tR (k : List (List UInt8) → Spec) : Spec
  | p :: r => with_ p.rl? fun b => k b.1 r
  | [] => none
noncomputable def tP (k : PV → PV → Spec) : Spec
  | p :: r => with_ p.pair? fun b => k b.1.1 b.1.2 r
  | [] => none
noncomputable def tC (k : Spec) : Spec
  | .codec :: r => k r
  | _ => none
section
variable {ps : List PV} {x : PV × Cond}
theorem no_some {Q : Prop} (h : (none : Option (PV × Cond)) = some x) : Q := nomatch h
theorem with_elim {α : Type} {o : Option α} {f : α → Option (PV × Cond)} (h : with_ o f = some x) : ∃ a, f a = some x := by
  cases o with
  | none => exact no_some h
  | some a => exact ⟨a, h⟩
theorem tE_use {a : Option (PV × Cond)} (h : tE a ps = some x) : ps = [] ∧ a = some x := by
  cases ps with
  | nil => exact ⟨rfl, h⟩
  | cons => exact no_some h
theorem tB_use {k : List UInt8 → Spec} (h : tB k ps = some x) : ∃ b r, ps = .bytes b :: r ∧ k b r = some x := by
  cases ps with
  | nil => exact no_some h
  | cons p r =>
    obtain ⟨⟨b, e⟩, h⟩ := with_elim h
    exact ⟨b, r, congrArg (· :: r) e, h⟩
theorem tI_use {k : Int → Spec} (h : tI k ps = some x) : ∃ b r, ps = .int b :: r ∧ k b r = some x := by
  cases ps with
  | nil => exact no_some h
  | cons p r =>
    obtain ⟨⟨b, e⟩, h⟩ := with_elim h
    exact ⟨b, r, congrArg (· :: r) e, h⟩
theorem tS_use {k : Str → Spec} (h : tS k ps = some x) : ∃ b r, ps = .str b :: r ∧ k b r = some x := by
  cases ps with
  | nil => exact no_some h
  | cons p r =>
    obtain ⟨⟨b, e⟩, h⟩ := with_elim h
    exact ⟨b, r, congrArg (· :: r) e, h⟩
theorem tR_use {k : List (List UInt8) → Spec} (h : tR k ps = some x) : ∃ b r, ps = .rl b :: r ∧ k b r = some x := by
  cases ps with
  | nil => exact no_some h
  | cons p r =>
    obtain ⟨⟨b, e⟩, h⟩ := with_elim h
    exact ⟨b, r, congrArg (· :: r) e, h⟩
theorem tP_use {k : PV → PV → Spec} (h : tP k ps = some x) : ∃ p q r, ps = .pair p q :: r ∧ k p q r = some x := by
  cases ps with
  | nil => exact no_some h
  | cons p r =>
    obtain ⟨⟨b, e⟩, h⟩ := with_elim h
    exact ⟨b.1, b.2, r, congrArg (· :: r) e, h⟩
theorem tC_use {k : Spec} (h : tC k ps = some x) : ∃ r, ps = .codec :: r ∧ k r = some x := by
  cases ps with
  | nil => exact no_some h
  | cons p r =>
    cases p with
    | codec => exact ⟨r, rfl, h⟩
    | _ => exact no_some h
end
/-- a spec of ints -/
noncomputable def sLen : Spec
  | [p] => alt (with_ p.bytes? fun b => some (.int b.1.length, some (b.1.length ≤ 16777216)))
    (alt (with_ p.rl? fun b => some (.int b.1.length, some (b.1.length ≤ 16777216))) (with_ p.il? fun b => some (.int b.1.length, some (b.1.length ≤ 16777216))))
  | _ => none
noncomputable def sBytes : Spec
  | [p] => with_ p.il? fun b => some (.bytes (b.1.map fun n => n.toNat.toUInt8), some ((∀ n ∈ b.1, 0 ≤ n ∧ n < 256) ∧ b.1.length ≤ 16777216))
  | _ => none
noncomputable def sOrd : Spec
  | [p] => with_ p.str? fun b => some (.int (b.1.cps.getD 0 0), some (b.1.cps.size = 1))
  | _ => none
noncomputable def sChr : Spec
  | [p] => with_ p.int? fun b => some (.str ⟨#[b.1.toNat]⟩, some (0 ≤ b.1 ∧ b.1 ≤ 0x10FFFF))
  | _ => none
noncomputable def sAbs : Spec
  | [p] => with_ p.int? fun b => some (.int (if b.1 < 0 then -b.1 else b.1), none)
  | _ => none
noncomputable def sMax : Spec
  | [p, q] => with_ p.int? fun a => with_ q.int? fun b => some (.int (if b.1 > a.1 then b.1 else a.1), none)
  | _ => none
noncomputable def sInt : Spec
  | [p] => with_ p.int? fun b => some (.int b.1, none)
  | _ => none
noncomputable def sStr : Spec
  | [p] => with_ p.int? fun b => some (.str (Str.ofString (toString b.1)), some (b.1.natAbs.log2 < 1920))
  | _ => none
noncomputable def sRange : Spec
  | [p] => with_ p.int? fun a => some (.rng 0 a.1 1, none)
  | [p, q] => with_ p.int? fun a => with_ q.int? fun b => some (.rng a.1 b.1 1, none)
  | [p, q, r] => with_ p.int? fun a => with_ q.int? fun b => with_ r.int? fun c => some (.rng a.1 b.1 c.1, some (0 < c.1 ∧ c.1 < 1000 ∧ (b.1 - a.1).natAbs < 1073741824))
  | _ => none
section
variable {W : Wd} {lv : Nat}
theorem reps1 {H : List Addr} {h : Heap} {p : PV} {vs : List Value} (r : Reps H h [p] vs) : ∃ v, vs = [v] ∧ Rep H h p v := by
  obtain ⟨v, r, rfl, r1, r2⟩ := r
  cases (show r = [] from r2)
  exact ⟨v, rfl, r1⟩
theorem reps2 {H : List Addr} {h : Heap} {p q : PV} {vs : List Value} (r : Reps H h [p, q] vs) : ∃ v u, vs = [v, u] ∧ Rep H h p v ∧ Rep H h q u := by
  obtain ⟨v, r, rfl, r1, r2⟩ := r
  obtain ⟨u, rfl, r3⟩ := reps1 r2
  exact ⟨v, u, rfl, r1, r3⟩
theorem reps3 {H : List Addr} {h : Heap} {p q t : PV} {vs : List Value} (r : Reps H h [p, q, t] vs) : ∃ v u w, vs = [v, u, w] ∧ Rep H h p v ∧ Rep H h q u ∧ Rep H h t w := by
  obtain ⟨v, r, rfl, r1, r2⟩ := r
  obtain ⟨u, w, rfl, r3⟩ := reps2 r2
  exact ⟨v, u, w, rfl, r1, r3⟩
theorem len_ok : CallOk W lv (.builtin "len") sLen := by
  intro f s ps vs Q E ok F r
  rcases ps with _ | ⟨p, _ | _⟩
  · exact .none
  · obtain ⟨v, rfl, r1⟩ := reps1 r
    refine .alt (.with_ fun b _ => .some fun hc g => ?_) (.alt (.with_ fun b _ => .some fun hc g => ?_) (.with_ fun b _ => .some fun hc g => ?_))
    · obtain ⟨t, rfl⟩ := r1.at b.2
      refine wpR_of (len_bytes (by simp only [List.size_toArray]; have : b.1.length ≤ 16777216 := hc; lia) ?_)
      simp only [List.size_toArray]
      exact g.int _ _
    · obtain ⟨a, us, rfl, _, hl, hb⟩ := r1.at b.2
      have e : us.toArray.size = b.1.length := by rw [List.size_toArray, hb.length]
      refine wpR_of (len_list hl (by rw [e]; have : b.1.length ≤ 16777216 := hc; lia) ?_)
      rw [e]
      exact g.int _ _
    · obtain ⟨a, us, rfl, _, hl, hb⟩ := r1.at b.2
      have e : us.toArray.size = b.1.length := by rw [List.size_toArray, hb.length]
      refine wpR_of (len_list hl (by rw [e]; have : b.1.length ≤ 16777216 := hc; lia) ?_)
      rw [e]
      exact g.int _ _
  · exact .none
theorem bytes_ok : CallOk W lv (.type "bytes") sBytes := by
  intro f s ps vs Q E ok F r
  rcases ps with _ | ⟨p, _ | _⟩
  · exact .none
  · obtain ⟨v, rfl, r1⟩ := reps1 r
    refine .with_ fun b _ => .some fun hc g => ?_
    obtain ⟨a, us, rfl, _, hl, hb⟩ := r1.at b.2
    refine wpR_of (call_bytes_ints hl hb hc.1 (by rw [hb.length, sizeLine_eq]; exact hc.2) rfl fun h' t k hk => ?_)
    exact g _ h' k hk ⟨t, rfl⟩
  · exact .none
theorem ord_ok : CallOk W lv (.builtin "ord") sOrd := by
  intro f s ps vs Q E ok F r
  rcases ps with _ | ⟨p, _ | _⟩
  · exact .none
  · obtain ⟨v, rfl, r1⟩ := reps1 r
    refine .with_ fun b _ => .some fun hc g => ?_
    obtain ⟨t, rfl⟩ := r1.at b.2
    have key : ∀ z : Str, z.cps.size = 1 → z = ⟨#[z.cps.getD 0 0]⟩ := by
      rintro ⟨⟨c⟩⟩ h
      match c, h with
      | [c], _ => rfl
      | [], h => exact absurd h (by simp)
      | _ :: _ :: _, h => exact absurd h (by simp)
    rw [key b.1 hc]
    exact wpR_of (PySem.P.ord_of_char (g.int _ _))
  · exact .none
theorem chr_ok : CallOk W lv (.builtin "chr") sChr := by
  intro f s ps vs Q E ok F r
  rcases ps with _ | ⟨p, _ | _⟩
  · exact .none
  · obtain ⟨v, rfl, r1⟩ := reps1 r
    refine .with_ fun b _ => .some fun hc g => ?_
    obtain ⟨t, rfl⟩ := r1.at b.2
    refine wpR_of (PySem.P.chr_of_int ?_ (g _ _ _ (stays_refl _) ⟨_, rfl⟩))
    obtain ⟨h0, h1⟩ : 0 ≤ b.1 ∧ b.1 ≤ 0x10FFFF := hc
    simp only [Bool.or_eq_false_iff, decide_eq_false_iff_not]
    lia
  · exact .none
theorem abs_ok : CallOk W lv (.builtin "abs") sAbs := by
  intro f s ps vs Q E ok F r
  rcases ps with _ | ⟨p, _ | _⟩
  · exact .none
  · obtain ⟨v, rfl, r1⟩ := reps1 r
    refine .with_ fun b _ => .some fun hc g => ?_
    obtain ⟨t, rfl⟩ := r1.at b.2
    exact wpR_of (call_abs_int fun u tk => g.int _ _)
  · exact .none
theorem max_ok : CallOk W lv (.builtin "max") sMax := by
  intro f s ps vs Q E ok F r
  rcases ps with _ | ⟨p, _ | ⟨q, _ | _⟩⟩
  · exact .none
  · exact .none
  · obtain ⟨v, u, rfl, r1, r2⟩ := reps2 r
    refine .with_ fun a _ => .with_ fun b _ => .some fun hc g => ?_
    obtain ⟨t, rfl⟩ := r1.at a.2
    obtain ⟨t', rfl⟩ := r2.at b.2
    refine wpR_of (max_two_ints rfl fun h' tk hk => ?_)
    split
    · exact g _ _ _ hk ⟨_, by rw [if_pos (by assumption)]⟩
    · exact g _ _ _ hk ⟨_, by rw [if_neg (by assumption)]⟩
  · exact .none
theorem int_ok : CallOk W lv (.type "int") sInt := by
  intro f s ps vs Q E ok F r
  rcases ps with _ | ⟨p, _ | _⟩
  · exact .none
  · obtain ⟨v, rfl, r1⟩ := reps1 r
    refine .with_ fun b _ => .some fun hc g => ?_
    obtain ⟨t, rfl⟩ := r1.at b.2
    exact wpR_of (call_int_int (g.int _ s.toks))
  · exact .none
theorem str_ok : CallOk W lv (.type "str") sStr := by
  intro f s ps vs Q E ok F r
  rcases ps with _ | ⟨p, _ | _⟩
  · exact .none
  · obtain ⟨v, rfl, r1⟩ := reps1 r
    refine .with_ fun b _ => .some fun hc g => ?_
    obtain ⟨t, rfl⟩ := r1.at b.2
    exact wpR_of (PySem.P.str_of_int hc (g _ _ _ (stays_refl _) ⟨_, rfl⟩))
  · exact .none
theorem range_ok : CallOk W lv (.type "range") sRange := by
  intro f s ps vs Q E ok F r
  rcases ps with _ | ⟨p, _ | ⟨q, _ | ⟨q3, _ | _⟩⟩⟩
  · exact .none
  · obtain ⟨v, rfl, r1⟩ := reps1 r
    refine .with_ fun b _ => .some fun hc g => ?_
    obtain ⟨t, rfl⟩ := r1.at b.2
    exact wpR_of (call_range_1 (g _ _ _ (stays_push _ _) ⟨_, _, _, _, rfl, List.not_mem_nil, IsRange.new ..⟩))
  · obtain ⟨v, u, rfl, r1, r2⟩ := reps2 r
    refine .with_ fun a _ => .with_ fun b _ => .some fun hc g => ?_
    obtain ⟨t, rfl⟩ := r1.at a.2
    obtain ⟨t', rfl⟩ := r2.at b.2
    exact wpR_of (call_range_2 (g _ _ _ (stays_push _ _) ⟨_, _, _, _, rfl, List.not_mem_nil, IsRange.new ..⟩))
  · obtain ⟨v, u, w, rfl, r1, r2, r3⟩ := reps3 r
    refine .with_ fun a _ => .with_ fun b _ => .with_ fun c _ => .some fun hc g => ?_
    obtain ⟨t, rfl⟩ := r1.at a.2
    obtain ⟨t', rfl⟩ := r2.at b.2
    obtain ⟨t'', rfl⟩ := r3.at c.2
    obtain ⟨h1, h2, h3⟩ : 0 < c.1 ∧ c.1 < 1000 ∧ (b.1 - a.1).natAbs < 1073741824 := hc
    exact wpR_of (call_range_3 (by lia) (g _ _ _ (stays_push _ _) ⟨_, _, _, _, rfl, List.not_mem_nil, IsRange.new ..⟩) (.inl (PyProof.noPylong_small (by lia))))
  · exact .none
end
end Nt

set_option Elab.async false
set_option maxRecDepth 100000
set_option linter.all false
open PySem PySem.W PyProof.Rows PySem.Calls
namespace Nt
set_option genInjectivity false
set_option genSizeOf false
theorem ga_bytes : typeLookup (.type "bytes") "__getattribute__" = pure (some (.builtin "bytes.__getattribute__")) := by rw [typeLookup_type, builtinLookup_eq_fast]; kernel_rfl
theorem canon_ga_bytes : (Manifest.canonical "bytes.__getattribute__" != "object.__getattribute__") = false := by decide +kernel
theorem no_getattr_bytes : typeLookup (.type "bytes") "__getattr__" = pure none := by rw [typeLookup_type, builtinLookup_eq_fast]; kernel_rfl
theorem slot_b_find : Slot "bytes" "find" "bytes.find" :=
  .of (owner := "bytes") (n := "find") (by rw [typeLookup_type, builtinLookup_eq_fast]; kernel_rfl) (by decide +kernel) (by decide +kernel) (by decide +kernel)
    (by first | exact .inl (by decide +kernel) | exact .inr (by decide +kernel)) (by rw [isSubtype_type]; kernel_rfl)
theorem slot_b_split : Slot "bytes" "split" "bytes.split" :=
  .of (owner := "bytes") (n := "split") (by rw [typeLookup_type, builtinLookup_eq_fast]; kernel_rfl) (by decide +kernel) (by decide +kernel) (by decide +kernel)
    (by first | exact .inl (by decide +kernel) | exact .inr (by decide +kernel)) (by rw [isSubtype_type]; kernel_rfl)
theorem slot_b_join : Slot "bytes" "join" "bytes.join" :=
  .of (owner := "bytes") (n := "join") (by rw [typeLookup_type, builtinLookup_eq_fast]; kernel_rfl) (by decide +kernel) (by decide +kernel) (by decide +kernel)
    (by first | exact .inl (by decide +kernel) | exact .inr (by decide +kernel)) (by rw [isSubtype_type]; kernel_rfl)
theorem type_b_find : typeOf (.builtin "bytes.find") = pure (.type "method_descriptor") := by show builtinType _ = _; rw [builtinType_eq_fast]; kernel_rfl
theorem type_b_split : typeOf (.builtin "bytes.split") = pure (.type "method_descriptor") := by show builtinType _ = _; rw [builtinType_eq_fast]; kernel_rfl
theorem type_b_join : typeOf (.builtin "bytes.join") = pure (.type "method_descriptor") := by show builtinType _ = _; rw [builtinType_eq_fast]; kernel_rfl
theorem entry_b_find : entryFor table "bytes.find" = some Builtin.«bytes.find» := entryFor_of_tree (by kernel_rfl)
theorem entry_b_split : entryFor table "bytes.split" = some Builtin.«bytes.split» := entryFor_of_tree (by kernel_rfl)
theorem entry_b_join : entryFor table "bytes.join" = some Builtin.«bytes.join» := entryFor_of_tree (by kernel_rfl)
/-- the place of a run of octets, or -1 -/
noncomputable def findO (b c : List UInt8) : Option Nat := if b.length < c.length then none else Builtin.Bytes.find? b.toArray c.toArray 0 b.length
noncomputable def findB (b c : List UInt8) : Int := match findO b c with
  | some i => (i : Int)
  | none => -1
theorem window_all (n : Nat) : Builtin.Bytes.window n none none = (0, (n : Int)) := by
  unfold Builtin.Bytes.window
  simp only [Option.getD_none, Int.lt_irrefl, if_false]
  rw [if_neg (by lia)]
  exact Prod.ext rfl (by show min (n : Int) n = n; lia)
section
variable {prog : Program} {w : World} {A : Around} {E : Value → Shared → Prop} {s : Shared} {M : Model} {W : Wd} {lv : Nat}
theorem keeps_builtin {id : String} : Keeps' W (.builtin id) := fun hp _ => ⟨.machine, .inr (.inl rfl), Looks.of_pure rfl⟩
theorem keeps_type {id : String} : Keeps' W (.type id) := fun hp _ => ⟨.machine, .inr (.inl rfl), Looks.of_pure rfl⟩
theorem getB {x : Str} {id : String} {b : List UInt8} {pl : Sem Bool} {Q : Value × List Value → Shared → Prop} (slot : Slot "bytes" x id) (ty : typeOf (.builtin id) = pure (.type "method_descriptor")) {t : Tok} (h : Q (.builtin id, [.bytes b.toArray t]) s) : wpAny M A (getMethod (.bytes b.toArray t) x pl) Q E s :=
  getMethod_value (typeIs_bytes _ _ _) (fun _ q => nomatch q) ga_bytes canon_ga_bytes no_getattr_bytes slot.lookup ty h
theorem call_find {b c : List UInt8} {t u : Tok} {Q : Value → Shared → Prop} (h : ∀ t' k, Q (.int (findB b c) t') { s with toks := k }) : wpAny (model prog w) A (call (.builtin "bytes.find") [.bytes b.toArray t, .bytes c.toArray u]) Q E s := by
  refine wpAny_call_entry slot_b_find (typeIs_bytes _ _ _) entry_b_find ?_ (by unfold argsOk; kernel_rfl)
  unfold Builtin.«bytes.find» Builtin.Bytes.searchM
  refine wpAny_bind ?_
  unfold Builtin.Bytes.searchArgs
  refine wpAny_bind (wpAny_of_eq (a := (Value.bytes b.toArray t, [Value.bytes c.toArray u])) rfl ?_)
  refine wpAny_bind (wpAny_of_eq (a := none) rfl ?_)
  refine wpAny_bind (wpAny_of_eq (a := none) rfl ?_)
  refine wpAny_bind (wpAny_of_eq KBy.buffer_eq ?_)
  refine wpAny_bind (wpAny_of_eq (a := c.toArray) rfl ?_)
  refine wpAny_bind (wpAny_of_eq (a := b.toArray) rfl ?_)
  rw [window_all]
  refine wpAny_pure ?_
  have e : ((if (b.toArray.size : Int) - 0 < (c.toArray.size : Int) then none else some ((0 : Int).toNat, (b.toArray.size : Int).toNat)).bind fun x => Builtin.Bytes.find? b.toArray c.toArray x.1 x.2) = findO b c := by
    unfold findO
    simp only [List.size_toArray, Int.sub_zero, Int.ofNat_lt]
    split <;> simp
  show wpAny _ _ (match ((if (b.toArray.size : Int) - 0 < (c.toArray.size : Int) then none else some ((0 : Int).toNat, (b.toArray.size : Int).toNat)).bind fun x => Builtin.Bytes.find? b.toArray c.toArray x.1 x.2) with
    | some i => retInt (i : Nat)
    | none => (do rule _; retInt (-1))) _ _ _
  rw [e]
  unfold findB at h
  cases hf : findO b c with
  | some i => rw [hf] at h; exact fun _ _ _ => ⟨_, rfl, h _ _⟩
  | none => rw [hf] at h; exact wpAny_bind (wpAny_rule fun _ _ _ => ⟨_, rfl, h _ _⟩)
theorem meth_find {b c : List UInt8} : MethOk W lv "find" (.bytes b) [.bytes c] (.int (findB b c)) := by
  intro f s v pl Q' E' ok F r h
  obtain ⟨t, rfl⟩ := r
  refine getB slot_b_find type_b_find (h (.builtin "bytes.find", [.bytes b.toArray t]) keeps_builtin fun s' us Q E F' k r' g => ?_)
  obtain ⟨u, rfl, r1⟩ := reps1 r'
  obtain ⟨t', rfl⟩ := r1
  exact wpR_of (call_find fun t' k => g.int _ _)
end
end Nt

set_option Elab.async false
set_option maxRecDepth 100000
set_option linter.all false
open PySem PySem.W PyProof.Rows PySem.Calls
namespace Nt
set_option genInjectivity false
set_option genSizeOf false
noncomputable def placesB (b c : List UInt8) : List Nat := (Builtin.Bytes.occurrences b.toArray c.toArray 0 b.length).take (b.length + 1)
/-- the parts between the places of a run of octets -/
noncomputable def splitB (b c : List UInt8) : List (List UInt8) := match (placesB b c).isEmpty with
  | true => [b]
  | false => (Builtin.Bytes.between b.toArray c.length (placesB b c)).map Array.toList
theorem fold_sizes (b : Array UInt8) (width : Nat) : ∀ (places : List Nat) (acc : Array (Array UInt8)) (last : Nat), (∀ x ∈ acc.toList, x.size ≤ b.size) →
    (∀ x ∈ (places.foldl (fun (x : Array (Array UInt8) × Nat) p => (x.1.push (b.extract x.2 p), p + width)) (acc, last)).1.toList, x.size ≤ b.size) ∧
    (places.foldl (fun (x : Array (Array UInt8) × Nat) p => (x.1.push (b.extract x.2 p), p + width)) (acc, last)).1.size = acc.size + places.length
  | [], acc, last, h => ⟨h, rfl⟩
  | p :: ps, acc, last, h => by
    have := fold_sizes b width ps (acc.push (b.extract last p)) (p + width) (fun x hx => by
      rw [Array.toList_push, List.mem_append] at hx
      rcases hx with hx | hx
      · exact h x hx
      · rw [List.mem_singleton.mp hx]; simp only [Array.size_extract]; lia)
    refine ⟨this.1, ?_⟩
    have h2 := this.2
    simp only [List.foldl_cons, List.length_cons]
    rw [h2]
    simp only [Array.size_push]
    lia
theorem between_sizes (b : Array UInt8) (width : Nat) (places : List Nat) : (∀ x ∈ Builtin.Bytes.between b width places, x.size ≤ b.size) ∧ (Builtin.Bytes.between b width places).length = places.length + 1 := by
  obtain ⟨h1, h2⟩ := fold_sizes b width places #[] 0 (by simp)
  unfold Builtin.Bytes.between
  constructor
  · intro x hx
    dsimp only at hx
    rw [Array.toList_push, List.mem_append] at hx
    rcases hx with hx | hx
    · exact h1 x hx
    · rw [List.mem_singleton.mp hx]; simp only [Array.size_extract]; lia
  · dsimp only
    rw [Array.length_toList, Array.size_push]
    rw [show (List.foldl _ (#[], 0) places).1.size = _ from h2]
    simp
theorem placesB_len (b c : List UInt8) : (placesB b c).length ≤ b.length + 1 := by
  unfold placesB; rw [List.length_take]; lia
theorem splitB_len (b c : List UInt8) : (splitB b c).length ≤ b.length + 2 := by
  unfold splitB
  split
  · simp
  · rw [List.length_map, (between_sizes _ _ _).2]
    have := placesB_len b c
    lia
section
variable {prog : Program} {w : World} {A : Around} {E : Value → Shared → Prop} {s : Shared} {M : Model} {W : Wd} {lv : Nat}
theorem mapM_new : ∀ {l : List (Array UInt8)} {s : Shared} {Q : List Value → Shared → Prop}, (∀ x ∈ l, x.size ≤ 16777216) → (∀ vs k, BytesAre vs (l.map Array.toList) → Q vs { s with toks := k }) → wpAny M A (l.mapM (Builtin.Bytes.Kind.new .bytes)) Q E s
  | [], s, Q, _, h => wpAny_pure (h [] s.toks rfl)
  | x :: l, s, Q, hl, h => by
    rw [List.mapM_cons]
    refine wpAny_bind ?_
    show wpAny M A (mkBytes x) _ E s
    refine wpAny_mkBytes ?_ (by rw [sizeLine_eq]; exact hl x (.head _))
    refine wpAny_bind (mapM_new (fun y hy => hl y (.tail _ hy)) fun vs k hv => wpAny_pure ?_)
    refine h _ k ⟨s.toks, vs, ?_, hv⟩
    simp
theorem call_split {b c : List UInt8} {t u : Tok} {Q : Value → Shared → Prop} (hc : c ≠ []) (hz : b.length ≤ 1048576) (h : ∀ h' D k, s.heap.StaysIn h' → Rep [] h' (.rl (splitB b c)) (.ref D) → Q (.ref D) ⟨h', s.gens, s.drawn, k, s.os⟩) : wpAny (model prog w) A (call (.builtin "bytes.split") [.bytes b.toArray t, .bytes c.toArray u]) Q E s := by
  refine wpAny_call_entry slot_b_split (typeIs_bytes _ _ _) entry_b_split ?_ (by unfold argsOk; kernel_rfl)
  unfold Builtin.«bytes.split» Builtin.Bytes.splitM
  refine wpAny_bind (wpAny_of_eq (a := [some (Value.bytes c.toArray u), none]) rfl ?_)
  refine wpAny_bind (wpAny_of_eq (a := -1) rfl ?_)
  refine wpAny_bind (wpAny_of_eq (a := b.toArray) rfl ?_)
  have hb : ∀ id, Builtin.Bytes.bytesLike id (.bytes c.toArray u) = pure c.toArray := fun id => by
    unfold Builtin.Bytes.bytesLike
    rw [KBy.buffer_eq]
    rfl
  dsimp only
  refine wpAny_bind (wpAny_of_eq (hb _) ?_)
  refine bm_if_false (by cases c with | nil => exact absurd rfl hc | cons _ _ => rfl) ?_
  have hp : (if false = true then Builtin.Bytes.occurrencesFromRight b.toArray c.toArray (if (-1 : Int) < 0 then b.toArray.size + 1 else (-1 : Int).toNat) else List.take (if (-1 : Int) < 0 then b.toArray.size + 1 else (-1 : Int).toNat) (Builtin.Bytes.occurrences b.toArray c.toArray 0 b.toArray.size)) = placesB b c := by
    unfold placesB
    simp
  rw [hp]
  have hcs : c.toArray.size = c.length := by simp
  rw [hcs]
  have key : ∀ (vs : List Value) (s' : Shared), s'.heap = s.heap → s'.gens = s.gens → s'.drawn = s.drawn → s'.os = s.os → BytesAre vs (splitB b c) → wpAny (model prog w) A.in1 (do let x ← newList vs; ret x) (fun fin s' => ∃ v, fin = Fin.done (Flow.ret v) ∧ Q v s') E s' := by
    rintro vs ⟨_, _, _, k, _⟩ rfl rfl rfl rfl hv
    refine wpAny_bind (wpAny_newObj_type (wpAny_pure ⟨_, rfl, h _ _ k (stays_push _ _) ⟨_, vs, rfl, List.not_mem_nil, isList_new _ _, hv⟩⟩) ?_)
    show vs.toArray.size ≤ sizeLine
    rw [List.size_toArray, hv.length, sizeLine_eq]
    have := splitB_len b c
    lia
  cases he : (placesB b c).isEmpty with
  | true =>
    refine bm_if_true rfl ?_
    refine wpAny_bind (wpAny_rule ?_)
    refine wpAny_bind (wpAny_of_eq (a := Value.bytes b.toArray t) rfl ?_)
    refine key _ _ rfl rfl rfl rfl ?_
    unfold splitB
    rw [he]
    exact ⟨t, [], rfl, rfl⟩
  | false =>
    refine bm_if_false rfl ?_
    have hbs := between_sizes b.toArray c.length (placesB b c)
    refine wpAny_bind (mapM_new (fun x hx => Nat.le_trans (hbs.1 x hx) (by simp; lia)) fun vs k hv => ?_)
    refine key _ _ rfl rfl rfl rfl ?_
    unfold splitB
    rw [he]
    exact hv
theorem meth_split {b c : List UInt8} (hc : c ≠ []) (hz : b.length ≤ 1048576) : MethOk W lv "split" (.bytes b) [.bytes c] (.rl (splitB b c)) := by
  intro f s v pl Q' E' ok F r h
  obtain ⟨t, rfl⟩ := r
  refine getB slot_b_split type_b_split (h (.builtin "bytes.split", [.bytes b.toArray t]) keeps_builtin fun s' us Q E F' k r' g => ?_)
  obtain ⟨u, rfl, r1⟩ := reps1 r'
  obtain ⟨t', rfl⟩ := r1
  exact wpR_of (call_split hc hz fun h' D k k' rr => g _ _ _ k' rr)
end
end Nt

set_option Elab.async false
set_option maxRecDepth 100000
set_option linter.all false
open PySem PySem.W PyProof.Rows PySem.Calls
namespace Nt
set_option genInjectivity false
set_option genSizeOf false
theorem joined_nil : ∀ (l : List (List UInt8)) (k : Nat) (acc : Array UInt8), (((l.map List.toArray).zipIdx k).foldl (fun out (x : Array UInt8 × Nat) => (if x.2 > 0 then out ++ (#[] : Array UInt8) else out) ++ x.1) acc) = acc ++ l.flatten.toArray
  | [], _, acc => by simp
  | x :: l, k, acc => by
    rw [List.map_cons, List.zipIdx_cons, List.foldl_cons, joined_nil l]
    have : (if k > 0 then acc ++ (#[] : Array UInt8) else acc) = acc := by split <;> simp
    rw [this]
    simp
/-- values of octets without more -/
noncomputable def Plain (l : List (Value × Option Value)) : Prop := ∀ y ∈ l, ∃ b t, y = (Value.bytes b t, none)
section
variable {prog : Program} {w : World} {A : Around} {E : Value → Shared → Prop} {s : Shared} {M : Model} {W : Wd} {lv : Nat}
theorem loopB {σ : Type} {f : Nat → σ → Sem (ForInStep σ)} {I : Nat → σ → Prop} {n : Nat} : ∀ (k i : Nat) (x : σ) (Q : σ → Shared → Prop), i + k = n → I i x →
    (∀ i x (Q : ForInStep σ → Shared → Prop), i < n → I i x → (∀ y, I (i + 1) y → Q (.yield y) s) → wpAny M A (f i x) Q E s) → (∀ y, I n y → Q y s) → wpAny M A (forIn (List.range' i k 1) x f) Q E s
  | 0, i, x, Q, h, hI, _, g => by
    cases h
    exact wpAny_pure (g x hI)
  | k + 1, i, x, Q, h, hI, hf, g => by
    rw [List.range'_succ, List.forIn_cons]
    refine wpAny_bind (hf i x _ (by lia) hI fun y hy => ?_)
    exact loopB k (i + 1) y Q (by lia) hy hf g
theorem letGo_plain {keep : List Value} : ∀ {l : List (Value × Option Value)} {Q : Unit → Shared → Prop}, Plain l → Q () s → wpAny M A (Builtin.Bytes.joinLetGo l keep) Q E s
  | [], Q, _, h => wpAny_pure h
  | (x, w) :: l, Q, hp, h => by
    obtain ⟨b, t, e⟩ := hp _ (.head _)
    cases e
    unfold Builtin.Bytes.joinLetGo
    exact wpAny_bind (wpAny_letGo (letGo_plain (fun y hy => hp y (.tail _ hy)) h))
theorem plain_noHeap : ∀ {l : List (Value × Option Value)}, Plain l → (l.any fun x => x.1.onHeap) = false
  | [], _ => rfl
  | (x, w) :: l, hp => by
    obtain ⟨b, t, e⟩ := hp _ (.head _)
    cases e
    rw [List.any_cons, plain_noHeap (fun y hy => hp y (.tail _ hy))]
    rfl
theorem call_joinB {b : List UInt8} {l : List (List UInt8)} {vs : List Value} {a : Addr} {t : Tok} {Q : Value → Shared → Prop} (ha : s.heap.IsList a vs.toArray) (hv : BytesAre vs l) (h2 : 2 ≤ l.length) (hz : l.flatten.length ≤ 16777216) (h : ∀ t' k, Q (.bytes l.flatten.toArray t') { s with toks := k }) : wpAny (model prog w) A (call (.builtin "bytes.join") [.bytes #[] t, .ref a]) Q E s := by
  have hT := ha.typeIs
  obtain ⟨o, ho, hc, n, hd⟩ := id ha
  refine wpAny_call_entry slot_b_join (typeIs_bytes _ _ _) entry_b_join ?_ (by unfold argsOk; kernel_rfl)
  unfold Builtin.«bytes.join» Builtin.Bytes.joinM
  refine wpAny_bind (wpAny_of_eq (a := (Value.bytes #[] t, Value.ref a)) rfl ?_)
  refine bm_if_true rfl ?_
  refine wpAny_bind ?_
  unfold Builtin.Bytes.joinItems
  refine wpAny_bind (wpAny_typeOf hT ?_)
  refine bm_if_true rfl ?_
  refine wpAny_pure ?_
  refine wpAny_bind ?_
  have hs : ∀ (s' : Shared) (Q : Option (Array Value) → Shared → Prop), s'.heap = s.heap → Q (some vs.toArray) s' → wpAny (model prog w) A.in1 (seqItems? (.ref a)) Q E s' := fun s' Q e q => by
    unfold seqItems?
    refine wpAny_bind (wpAny_load (e ▸ ho) ?_)
    rw [hd]
    exact wpAny_pure q
  refine hs _ _ rfl ?_
  dsimp only
  refine bm_if_true rfl ?_
  have hsz : vs.length = l.length := hv.length
  have hitem : ∀ i (hi : i < l.length), ∃ u, vs.toArray.getD i .none = .bytes (l[i]).toArray u := by
    intro i hi
    obtain ⟨u, e⟩ := bytes_get hv hi
    refine ⟨u, ?_⟩
    simp only [Array.getD_eq_getD_getElem?, List.getElem?_toArray, e, Option.getD_some]
    rw [List.getD_eq_getElem?_getD, List.getElem?_eq_getElem hi, Option.getD_some]
  have hsa : vs.toArray.size = l.length := by rw [List.size_toArray]; exact hsz
  rcases vs with _ | ⟨x, _ | ⟨y, r⟩⟩
  · rw [← hsz] at h2; cases h2
  · rw [← hsz] at h2; exact absurd h2 (by simp)
  · refine wpAny_bind ?_
    generalize (x :: y :: r) = vs at *
    rw [Std.Legacy.Range.forIn_eq_forIn_range']
    refine loopB (n := l.length) (I := fun i (x : Array (Array UInt8) × List (Value × Option Value)) => x.1.toList = (l.take i).map List.toArray ∧ Plain x.2) _ 0 _ _ ?_ ⟨by simp, fun _ hy => by cases hy⟩ (fun i x Q' hi hI hQ => ?_) (fun y hy => ?_)
    · simpa using hsa
    · refine wpAny_bind (hs s _ rfl ?_)
      refine bm_if_false (by rw [plain_noHeap hI.2]; rfl) ?_
      obtain ⟨u, eu⟩ := hitem i hi
      rw [eu]
      refine wpAny_bind (wpAny_holding (wpAny_of_eq b_take ?_))
      refine wpAny_bind (hs s _ rfl ?_)
      refine bm_if_false (by simp) ?_
      refine wpAny_pure (hQ _ ⟨?_, fun z hz => ?_⟩)
      · rw [Array.toList_push, hI.1, List.take_add_one, List.getElem?_eq_getElem hi, List.map_append]
        rfl
      · rcases List.mem_append.mp hz with hz | hz
        · exact hI.2 z hz
        · rw [List.mem_singleton.mp hz]; exact ⟨_, _, rfl⟩
    · obtain ⟨e1, e2⟩ := hy
      rw [List.take_length] at e1
      refine wpAny_bind (wpAny_of_eq (a := #[]) rfl ?_)
      have hsum : ∀ (l : List (List UInt8)) (k : Nat), (l.map List.toArray).foldl (fun x1 x2 => x1 + x2.size) k = k + l.flatten.length := by
        intro l
        induction l with
        | nil => intro k; rfl
        | cons x l ih => intro k; rw [List.map_cons, List.foldl_cons, ih]; simp; lia
      have hf : Array.foldl (fun x1 x2 => x1 + x2.size) ((#[] : Array UInt8).size * (y.1.size - 1)) y.1 = l.flatten.length := by
        rw [← Array.foldl_toList, e1, hsum]
        simp
      refine bm_if_false (by rw [hf]; exact KBy.tooLong_not hz) ?_
      have hj : Builtin.Bytes.joined #[] y.1.toList = l.flatten.toArray := by
        rw [e1]
        unfold Builtin.Bytes.joined
        have := joined_nil l 0 #[]
        simpa using this
      rw [hj]
      refine wpAny_bind ?_
      show wpAny _ _ (mkBytes _) _ _ _
      refine wpAny_mkBytes ?_ (by rw [List.size_toArray, sizeLine_eq]; exact hz)
      refine wpAny_bind (wpAny_holding (wpAny_point ?_))
      refine wpAny_bind (letGo_plain e2 ?_)
      exact wpAny_pure ⟨_, rfl, h _ _⟩
theorem meth_joinB {l : List (List UInt8)} (h2 : 2 ≤ l.length) (hz : l.flatten.length ≤ 16777216) : MethOk W lv "join" (.bytes []) [.rl l] (.bytes l.flatten) := by
  intro f s v pl Q' E' ok F r h
  obtain ⟨t, rfl⟩ := r
  refine getB slot_b_join type_b_join (h (.builtin "bytes.join", [.bytes [].toArray t]) keeps_builtin fun s' us Q E F' k r' g => ?_)
  obtain ⟨u, rfl, r1⟩ := reps1 r'
  obtain ⟨a, vs, rfl, _, hl, hv⟩ := r1
  exact wpR_of (call_joinB (b := []) hl hv h2 hz fun t' k => g.bytes _ _)
end
end Nt

set_option Elab.async false
set_option maxRecDepth 100000
set_option linter.all false
open PySem PySem.W PyProof.Rows PySem.Calls
namespace Nt
set_option genInjectivity false
set_option genSizeOf false
section
variable {W : Wd} {lv : Nat} {f : Fm} {scope : Scope} {cel loc loc' : Loc} {own own' : List Str} {s : Shared} {T : Tb} {m m' : Str → Option Value} {n : Nat} {x : Str} {xp np ap cp pos lp ip tp : Pos} {e i : Expr} {c c₂ : Cond}
/-- an int turned in its place -/
theorem augAdd (hT : TbOk W lv T) {a b : Int} (hx : isLoc scope x = true) (hl : loc.lookup x = some (.int a)) (e1 : (ev T n).1 ⟨scope.names, cel⟩ loc e = some (.int b, c)) (hc : c.holds) :
    Step W lv scope cel loc own (.AugAssign (.Name x xp) .Add e pos) (put x (.int (a + b)) loc, without x own) := by
  intro f m s Q E C g
  rw [arm_exec_AugAssign]
  obtain ⟨v, hv, t, rfl⟩ := C.lc x _ hl
  refine wpR_bind (wpR_standAt (wpR_bindA (wpAny_loadName_local C.ok.k (C.env.lo x (isLoc_eq hx)) C.fr.ns hv ?_)))
  refine wpR_bind (wpR_holding ((ev_ok hT n).1 _ _ e _ c e1 hc f f.env s _ E C.env fun u h' tk k r => ?_))
  obtain ⟨t', rfl⟩ := r
  have z : Nx W lv f scope cel own m s loc own m h' (tk + 1) := Nx.of_stays C k
  refine wpR_bind (wpR_standAt (wpR_bind (wpR_operate (wpR_of (PyProof.Rows.iadd_int ?_)))))
  refine wpR_bind (wpR_standAt (wpR_bindA (wpAny_bindName ?_)))
  exact z.store (p := .int (a + b)) rfl ⟨_, rfl⟩ (isLoc_eq hx) keepOwn fun m' h2 tk2 y _ => wpR_pure (g m' h2 tk2 y)
theorem augDiv (hT : TbOk W lv T) {a b : Int} (hx : isLoc scope x = true) (hl : loc.lookup x = some (.int a)) (e1 : (ev T n).1 ⟨scope.names, cel⟩ loc e = some (.int b, c)) (hc : c.holds) (h0 : b ≠ 0) (h1 : b.natAbs < 1073741824) :
    Step W lv scope cel loc own (.AugAssign (.Name x xp) .FloorDiv e pos) (put x (.int (a.fdiv b)) loc, without x own) := by
  intro f m s Q E C g
  rw [arm_exec_AugAssign]
  obtain ⟨v, hv, t, rfl⟩ := C.lc x _ hl
  refine wpR_bind (wpR_standAt (wpR_bindA (wpAny_loadName_local C.ok.k (C.env.lo x (isLoc_eq hx)) C.fr.ns hv ?_)))
  refine wpR_bind (wpR_holding ((ev_ok hT n).1 _ _ e _ c e1 hc f f.env s _ E C.env fun u h' tk k r => ?_))
  obtain ⟨t', rfl⟩ := r
  have z : Nx W lv f scope cel own m s loc own m h' (tk + 1) := Nx.of_stays C k
  refine wpR_bind (wpR_standAt (wpR_bind (wpR_operate (wpR_of (ifloordiv_int h0 ?_ (.inl (PyProof.noPylong_small h1)))))))
  refine wpR_bind (wpR_standAt (wpR_bindA (wpAny_bindName ?_)))
  exact z.store (p := .int (a.fdiv b)) rfl ⟨_, rfl⟩ (isLoc_eq hx) keepOwn fun m' h2 tk2 y _ => wpR_pure (g m' h2 tk2 y)
/-- a bytearray of the frame's own grows -/
theorem augBa (hT : TbOk W lv T) {a b : List UInt8} (hx : isLoc scope x = true) (hown : x ∈ own) (hl : loc.lookup x = some (.ba a)) (e1 : (ev T n).1 ⟨scope.names, cel⟩ loc e = some (.bytes b, c)) (hc : c.holds) (hz : a.length + b.length ≤ 16777216) (once : onceIn loc = true) (hce : freeAll .ba cel = true) :
    Step W lv scope cel loc own (.AugAssign (.Name x xp) .Add e pos) (put x (.ba (a ++ b)) (put x (.ba (a ++ b)) (cutLoc .ba loc)), own) := by
  intro f m s Q E C g
  rw [arm_exec_AugAssign]
  obtain ⟨v, hv, ad, rfl, hnL, had⟩ := C.lc x _ hl
  refine wpR_bind (wpR_standAt (wpR_bindA (wpAny_loadName_local C.ok.k (C.env.lo x (isLoc_eq hx)) C.fr.ns hv ?_)))
  refine wpR_bind (wpR_holding ((ev_ok hT n).1 _ _ e _ c e1 hc f f.env s _ E C.env fun u h' tk k r => ?_))
  obtain ⟨t', rfl⟩ := r
  have z : Nx W lv f scope cel own m s loc own m h' tk := Nx.of_stays C k
  refine wpR_bind (wpR_standAt (wpR_bind (wpR_operate (inplace_ba (k _ _ had) hz fun h2 k2 e2 => ?_))))
  have y := z.trans (Nx.turned (k := .ba) (p := .ba (a ++ b)) (tk := tk) z.ok hown hv (k _ _ had) ⟨_, rfl⟩ k2 ⟨_, e2, rfl, rfl⟩ ⟨ad, rfl, hnL, e2⟩ once hce)
  refine wpR_bind (wpR_standAt (wpR_bindA (wpAny_bindName ?_)))
  refine y.store (own' := own) (p := .ba (a ++ b)) rfl ⟨ad, rfl, List.not_mem_nil, e2⟩ (isLoc_eq hx) (fun w hw => ?_) fun m' h3 tk3 y3 _ => wpR_pure (g m' h3 tk3 y3)
  by_cases q : w = x
  · subst q
    obtain ⟨a', q1, q2, q3, q4⟩ := C.ow w hown
    rw [hv] at q1; cases q1
    exact .inr ⟨rfl, ad, rfl, q2, ⟨⟨_, e2, rfl, rfl⟩, q3⟩, .inl ⟨w, hown, hv⟩⟩
  · exact .inl ⟨q, hw⟩
end
end Nt

set_option Elab.async false
set_option maxRecDepth 100000
set_option linter.all false
open PySem PySem.W PyProof.Rows PySem.Calls
namespace Nt
set_option genInjectivity false
set_option genSizeOf false
/-- a list with one more -/
noncomputable def appPV (p q : PV) : Option (PV × Cond) :=
  alt (with_ p.rl? fun l => with_ q.bytes? fun b => some (.rl (l.1 ++ [b.1]), some (l.1.length ≤ 1000000)))
    (alt (with_ p.il? fun l => with_ q.bytes? fun b => some (.rl [b.1], some (l.1 = [])))
      (with_ p.il? fun l => with_ q.int? fun b => some (.il (l.1 ++ [b.1]), some (l.1.length ≤ 1000000))))
section
variable {W : Wd} {lv : Nat} {f : Fm} {scope : Scope} {cel loc loc' : Loc} {own own' : List Str} {s : Shared} {T : Tb} {m m' : Str → Option Value} {n : Nat} {x : Str} {xp np ap cp pos lp ip tp : Pos} {e i : Expr} {c c₂ : Cond} {p q r : PV}
theorem bare_list {h : Heap} {a : Addr} {items : Array Value} (hl : h.IsList a items) (hb : Bare h a) : ∃ n, h.get? a = some { cls := .type "list", dict := none, data := .seq items n, slots := #[] } := by
  obtain ⟨o, e1, e2, n, e3⟩ := hl
  obtain ⟨o', f1, f2, f3⟩ := hb
  rw [e1] at f1; cases f1
  obtain ⟨oc, od, odt, osl⟩ := o
  simp only at e2 e3 f2 f3
  subst e2 e3 f2 f3
  exact ⟨n, e1⟩
/-- the walk into a method of a list of the frame's own -/
theorem listMeth (hT : TbOk W lv T) {y : Str} {id : String} (slot : Slot "list" y id) (hty : typeOf (.builtin id) = pure (.type "method_descriptor")) (hb : (ap.endLine == cp.line) = true) (hst : isStar e = false) (hx : isLoc scope x = true) (hd0 : (x == ("__debug__" : Str)) = false) (hown : x ∈ own) (C : StOk W lv f scope cel loc own m s)
    {a : Addr} {items : Array Value} (hv : m x = some (.ref a)) (hl : s.heap.IsList a items) (e1 : (ev T n).1 ⟨scope.names, cel⟩ loc e = some (q, c)) (hc : c.holds) {Q E : Value → Shared → Prop}
    (h : ∀ v h' tk, s.heap.StaysIn h' → Rep [] h' q v → wpR (model W.prog W.w) f.A (call (.builtin id) [.ref a, v]) Q E ⟨h', s.gens, s.drawn, tk, s.os⟩) : wpR (model W.prog W.w) f.A (eval (.Call (.Attribute (.Name x np) y ap) [e] [] cp) f.env) Q E s := by
  have hs : [e].all (fun e => !isStar e) = true := by simp [hst]
  obtain ⟨pl, heq⟩ := meth_eq (env := f.env) (o := .Name x np) (x := y) (apos := ap) (pos := cp) (as := [e]) rfl (by simpa using hb) hs (by simp)
  refine methodR (pl := pl) (wpR_of (wpAny_Name (wpAny_loadName_local C.ok.k (C.env.lo x (isLoc_eq hx)) C.fr.ns hv ?_) hd0)) heq
  have hbare : Bare s.heap a := by
    obtain ⟨a', q1, q2, q3, q4⟩ := C.ow x hown
    rw [hv] at q1; cases q1
    exact q4
  have hnd : s.heap.NoDictAt (.ref a) := by
    obtain ⟨n, hb⟩ := bare_list hl hbare
    exact ⟨_, hb, rfl⟩
  refine getMethod_list_of slot hty hl hnd ?_
  refine callWithR (P := fun _ => True) (any_star hs) (fun hp _ => ⟨.machine, .inr (.inl rfl), Looks.of_pure rfl⟩) ?_
  rw [star_plain hst, backTo_cons]
  refine splicedR_cons ((ev_ok hT n).1 _ _ e q c e1 hc f f.env s _ E C.env fun v h' tk k r => wpR_pure ⟨trivial, ?_⟩)
  exact h v h' tk k r
theorem dropNone {e : Expr} {pos : Pos} : dropValue e pos .none = pure .next := by unfold dropValue; cases e <;> rfl
theorem exprStmt (hk : f.env.scope.kind = .function) (hs : swapsWith e none pos.line f.env = pure false) {Q : Flow → Shared → Prop} {E : Value → Shared → Prop} (h : wpR (model W.prog W.w) f.A (eval e f.env) (fun v s' => v = .none ∧ Q .next s') E s) : wpR (model W.prog W.w) f.A (exec (.Expr e pos) f.env) Q E s := by
  rw [exec_Expr (hi := by unfold interactive; rw [hk]; rfl) (hs := hs)]
  refine wpR_bind (wpR_standAt (wpR_bind (wpR_mono h (fun v s' h' => ?_) fun _ _ x => x)))
  obtain ⟨rfl, h'⟩ := h'
  rw [dropNone]
  exact wpR_pure h'
theorem BytesAre.one {b : List UInt8} {t : Tok} : BytesAre [Value.bytes b.toArray t] [b] := ⟨t, [], rfl, rfl⟩
theorem append_ok (hT : TbOk W lv T) (hb : (ap.endLine == cp.line) = true) (hst : isStar e = false) (hx : isLoc scope x = true) (hd0 : (x == ("__debug__" : Str)) = false) (hown : x ∈ own) (hl : loc.lookup x = some p) (e1 : (ev T n).1 ⟨scope.names, cel⟩ loc e = some (q, c)) (hc : c.holds) (e2 : appPV p q = some (r, c₂)) (hc₂ : c₂.holds) (once : onceIn loc = true) (hce : freeAll .list cel = true) :
    Step W lv scope cel loc own (.Expr (.Call (.Attribute (.Name x np) "append" ap) [e] [] cp) pos) (put x r (cutLoc .list loc), own) := by
  intro f m s Q E C g
  obtain ⟨v, hv, hr⟩ := C.lc x _ hl
  have hbare : ∀ a, m x = some (.ref a) → Bare s.heap a := fun a ha => by
    obtain ⟨a', q1, q2, q3, q4⟩ := C.ow x hown
    rw [ha] at q1; cases q1
    exact q4
  refine exprStmt C.ok.k (swaps_plain rfl) ?_
  have key : ∀ (a : Addr) (vs : List Value) (hva : v = .ref a) (hnL : a ∉ [f.L]) (hla : s.heap.IsList a vs.toArray) (hz : vs.length ≤ 1000000) (hrep : ∀ (h h2 : Heap) (u : Value), Rep [] h q u → h2.IsList a (vs ++ [u]).toArray → Rep [f.L] h2 r (.ref a)),
      wpR (model W.prog W.w) f.A (eval (.Call (.Attribute (.Name x np) "append" ap) [e] [] cp) f.env) (fun v s' => v = .none ∧ Q .next s') E s := by
    intro a vs hva hnL hla hz hrep
    subst hva
    refine listMeth hT PySem.F.slot_list_append PySem.F.type_list_append hb hst hx hd0 hown C hv hla e1 hc fun u h' tk k ru => ?_
    have z : Nx W lv f scope cel own m s loc own m h' tk := Nx.of_stays C k
    obtain ⟨nn, hob⟩ := bare_list hla (hbare a hv)
    have hob' := k _ _ hob
    refine wpR_of (call_meets PySem.F.slot_list_append ⟨_, hob', rfl⟩ PySem.F.entry_list_append (PySem.F.args_list_append_2 _ _) (AutoListH.list_append_list_val_0 a vs.toArray nn u (by rw [List.size_toArray, sizeLine_eq]; lia)) ⟨hob', rfl, ?_⟩)
    have g2 : (h'.update a (Obj.mapSeq fun x => x.push u)).get? a = some (Obj.mapSeq (fun x => x.push u) { cls := .type "list", dict := none, data := .seq vs.toArray nn, slots := #[] }) := Heap.get?_update_self _ hob' rfl
    refine g _ _ _ (z.trans (Nx.turned (k := .list) (p := r) (tk := tk) z.ok hown hv hob' ⟨rfl, _, _, rfl⟩ (fun b ob nb eb => (Heap.get?_update_other _ _ (Ne.symm nb)).trans eb) ⟨_, g2, rfl, rfl⟩ (hrep h' _ u ru (by refine ⟨_, g2, rfl, nn + 1, ?_⟩; simp [Obj.mapSeq])) once hce))
  unfold appPV at e2
  have A1 : Ok (with_ p.rl? fun l => with_ q.bytes? fun b => some (.rl (l.1 ++ [b.1]), some (l.1.length ≤ 1000000))) fun r' => r' = r → wpR (model W.prog W.w) f.A (eval (.Call (.Attribute (.Name x np) "append" ap) [e] [] cp) f.env) (fun v s' => v = .none ∧ Q .next s') E s := by
    refine .with_ fun l _ => .with_ fun b _ => .some fun hc er => ?_
    obtain ⟨a, vs, e1, e2, e3, e4⟩ := hr.at l.2
    refine key a vs e1 e2 e3 (by rw [e4.length]; exact hc) fun h h2 u hu hl2 => ?_
    obtain ⟨t, rfl⟩ := hu.at b.2
    rw [← er]
    exact ⟨a, _, rfl, e2, hl2, e4.append BytesAre.one⟩
  have A2 : Ok (with_ p.il? fun l => with_ q.bytes? fun b => some (.rl [b.1], some (l.1 = []))) fun r' => r' = r → wpR (model W.prog W.w) f.A (eval (.Call (.Attribute (.Name x np) "append" ap) [e] [] cp) f.env) (fun v s' => v = .none ∧ Q .next s') E s := by
    refine .with_ fun l _ => .with_ fun b _ => .some fun hc er => ?_
    obtain ⟨a, vs, e1, e2, e3, e4⟩ := hr.at l.2
    have hc : l.1 = [] := hc
    rw [hc] at e4
    cases e4
    refine key a [] e1 e2 e3 (by simp) fun h h2 u hu hl2 => ?_
    obtain ⟨t, rfl⟩ := hu.at b.2
    rw [← er]
    exact ⟨a, _, rfl, e2, hl2, BytesAre.one⟩
  have A3 : Ok (with_ p.il? fun l => with_ q.int? fun b => some (.il (l.1 ++ [b.1]), some (l.1.length ≤ 1000000))) fun r' => r' = r → wpR (model W.prog W.w) f.A (eval (.Call (.Attribute (.Name x np) "append" ap) [e] [] cp) f.env) (fun v s' => v = .none ∧ Q .next s') E s := by
    refine .with_ fun l _ => .with_ fun b _ => .some fun hc er => ?_
    obtain ⟨a, vs, e1, e2, e3, e4⟩ := hr.at l.2
    refine key a vs e1 e2 e3 (by rw [e4.length]; exact hc) fun h h2 u hu hl2 => ?_
    obtain ⟨t, rfl⟩ := hu.at b.2
    rw [← er]
    exact ⟨a, _, rfl, e2, hl2, e4.append (.cons _ _ .nil)⟩
  exact Ok.alt A1 (.alt A2 A3) r c₂ e2 hc₂ rfl
theorem extend_ok (hT : TbOk W lv T) (hb : (ap.endLine == cp.line) = true) (hst : isStar e = false) (hx : isLoc scope x = true) (hd0 : (x == ("__debug__" : Str)) = false) (hown : x ∈ own) {l l₂ : List (List UInt8)} (hl : loc.lookup x = some (.rl l)) (e1 : (ev T n).1 ⟨scope.names, cel⟩ loc e = some (.rl l₂, c)) (hc : c.holds) (hz : l.length + l₂.length ≤ 1000000) (once : onceIn loc = true) (hce : freeAll .list cel = true)
    (hnew : ∀ (f : Fm) (s : Shared), EnvOk W lv f ⟨scope.names, cel⟩ loc f.env s → ∀ (Q E : Value → Shared → Prop), (∀ D h' tk, s.heap.StaysIn h' → s.heap.get? D = none → Rep [] h' (.rl l₂) (.ref D) → Bare h' D → Q (.ref D) ⟨h', s.gens, s.drawn, tk, s.os⟩) → wpR (model W.prog W.w) f.A (eval e f.env) Q E s) :
    Step W lv scope cel loc own (.Expr (.Call (.Attribute (.Name x np) "extend" ap) [e] [] cp) pos) (put x (.rl (l ++ l₂)) (cutLoc .list loc), own) := by
  intro f m s Q E C g
  obtain ⟨v, hv, a, vs, rfl, hnL, hla, hba⟩ := C.lc x _ hl
  have hbare : Bare s.heap a := by
    obtain ⟨a', q1, q2, q3, q4⟩ := C.ow x hown
    rw [hv] at q1; cases q1
    exact q4
  refine exprStmt C.ok.k (swaps_plain rfl) ?_
  have hs : [e].all (fun e => !isStar e) = true := by simp [hst]
  obtain ⟨pl, heq⟩ := meth_eq (env := f.env) (o := .Name x np) (x := "extend") (apos := ap) (pos := cp) (as := [e]) rfl (by simpa using hb) hs (by simp)
  refine methodR (pl := pl) (wpR_of (wpAny_Name (wpAny_loadName_local C.ok.k (C.env.lo x (isLoc_eq hx)) C.fr.ns hv ?_) hd0)) heq
  obtain ⟨nn, hob⟩ := bare_list hla hbare
  refine getMethod_list_of PySem.F.slot_list_extend PySem.F.type_list_extend hla ⟨_, hob, rfl⟩ ?_
  refine callWithR (P := fun _ => True) (any_star hs) (fun hp _ => ⟨.machine, .inr (.inl rfl), Looks.of_pure rfl⟩) ?_
  rw [star_plain hst, backTo_cons]
  refine splicedR_cons (hnew f s C.env _ _ fun D h' tk k hD r hbD => wpR_pure ⟨trivial, ?_⟩)
  obtain ⟨a₂, us, e2, _, hl2, hb2⟩ := r
  cases e2
  obtain ⟨n2, hob2⟩ := bare_list hl2 hbD
  have z : Nx W lv f scope cel own m s loc own m h' tk := Nx.of_stays C k
  have hob' := k _ _ hob
  have s1 : vs.toArray.size = l.length := by rw [List.size_toArray, hba.length]
  have s2 : us.toArray.size = l₂.length := by rw [List.size_toArray, hb2.length]
  refine wpR_of (call_meets PySem.F.slot_list_extend ⟨_, hob', rfl⟩ PySem.F.entry_list_extend (PySem.F.args_list_extend_2 _ _) (AutoSeq1.list_extend_list_list_0 a vs.toArray nn D us.toArray n2 (extend_door (by rw [s1, s2, sizeLine_eq]; lia)) (by rw [s1, sizeLine_eq]; lia) (by rw [s1, s2, sizeLine_eq]; lia)) ⟨hob', hob2, rfl, ?_⟩)
  have g2 : (h'.update a (Obj.mapSeq fun x => x ++ us.toArray)).get? a = some (Obj.mapSeq (fun x => x ++ us.toArray) { cls := .type "list", dict := none, data := .seq vs.toArray nn, slots := #[] }) := Heap.get?_update_self _ hob' rfl
  refine g _ _ _ (z.trans (Nx.turned (k := .list) (p := .rl (l ++ l₂)) (tk := tk) z.ok hown hv hob' ⟨rfl, _, _, rfl⟩ (fun b ob nb eb => (Heap.get?_update_other _ _ (Ne.symm nb)).trans eb) ⟨_, g2, rfl, rfl⟩ ⟨a, vs ++ us, rfl, hnL, ?_, hba.append hb2⟩ once hce))
  obtain ⟨n', hd'⟩ := Obj.data_mapSeq (o := { cls := .type "list", dict := none, data := .seq vs.toArray nn, slots := #[] }) rfl (fun x => x ++ us.toArray)
  exact ⟨_, g2, rfl, n', by rw [hd', List.append_toArray]⟩
end
end Nt

set_option Elab.async false
set_option maxRecDepth 100000
set_option linter.all false
open PySem PySem.W PyProof.Rows PySem.Calls
namespace Nt
set_option genInjectivity false
set_option genSizeOf false
section
variable {W : Wd} {lv : Nat} {f : Fm} {scope : Scope} {cel loc loc' : Loc} {own own' : List Str} {s : Shared} {T : Tb} {m m' : Str → Option Value} {n : Nat} {x : Str} {xp np ap cp pos lp ip tp sp : Pos} {e i : Expr} {c c₂ : Cond} {p q r : PV}
theorem Nx.turned0 {k : Kd} {a : Addr} {o : Obj} {h' : Heap} {tk : Nat} (c : StOk W lv f scope cel loc own m s) (hx : x ∈ own) (hm : m x = some (.ref a)) (ho : s.heap.get? a = some o) (hk : ofKind k o)
    (hs : ∀ b ob, b ≠ a → s.heap.get? b = some ob → h'.get? b = some ob) (hr : Rep [f.L] h' p (.ref a)) (once : onceIn loc = true) (hc : freeAll k cel = true) : Nx W lv f scope cel own m s (put x p (cutLoc k loc)) [] m h' tk := by
  have hn0 : f.h₀.get? a = none := by
    obtain ⟨b, e, z, _⟩ := c.ow x hx
    rw [hm] at e; cases e; exact z
  have hL : f.L ≠ a := fun q => by
    obtain ⟨od, es, ep, e, d⟩ := ns_data c.fr.ns
    rw [q, ho] at e; cases e
    exact ofKind_notDict hk _ _ d
  refine ⟨fun b ob e _ q => hs b ob (fun z => q ⟨x, hx, z ▸ hm⟩) e, fun b h => (by obtain ⟨_, q, _⟩ := h; cases q), c.sc, fun y q e => ?_, c.ok, ⟨?_, fun b ob e => hs b ob (fun z => ?_) (c.fr.keep b ob e), c.fr.above⟩, fun y q e => ?_, fun y hy => (by cases hy)⟩
  · obtain ⟨kk, b, u, e1, ⟨oc, ec, dc⟩, e3⟩ := c.ce y q e
    exact ⟨kk, b, u, e1, ⟨oc, hs _ _ (fun z => by rw [z, ho] at ec; cases ec; exact ofKind_notCell hk _ dc) ec, dc⟩, e3.but ho hk hs (freeAll_at hc e)⟩
  · obtain ⟨od, es, ep, e, r⟩ := c.fr.ns
    exact ⟨od, es, ep, hs _ _ hL e, r⟩
  · rw [z, hn0] at e; cases e
  · rw [lookup_put] at e
    by_cases h1 : y = x
    · subst h1
      rw [if_pos rfl] at e
      cases e
      exact ⟨_, hm, hr⟩
    · rw [if_neg h1] at e
      exact Lc.cut ho hk hs (fun z hz => c.lc z.1 z.2 (mem_lookup once hz)) _ (lookup_mem e)
theorem bytes_set {v : Value} {b : List UInt8} {t : Tok} : ∀ {l : List (List UInt8)} {vs : List Value} (i : Nat), BytesAre vs l → BytesAre (vs.set i (.bytes b.toArray t)) (l.set i b)
  | [], _, _, rfl => rfl
  | _ :: _, _, 0, ⟨_, r, rfl, h⟩ => ⟨t, r, rfl, h⟩
  | _ :: _, _, i + 1, ⟨u, r, rfl, h⟩ => ⟨u, _, rfl, bytes_set (v := v) i h⟩
/-- an item of the frame's own list is stored -/
theorem setItem_ok (hT : TbOk W lv T) (hcomp : isComp e = false) (hx : isLoc scope x = true) (hd0 : (x == ("__debug__" : Str)) = false) (hown : x ∈ own) {l : List (List UInt8)} {b : List UInt8} {j : Int} (hl : loc.lookup x = some (.rl l)) (e1 : (ev T n).1 ⟨scope.names, cel⟩ loc e = some (.bytes b, c)) (hc : c.holds)
    (e2 : (ev T n).1 ⟨scope.names, cel⟩ loc i = some (.int j, c₂)) (hc₂ : c₂.holds) (h0 : 0 ≤ j) (h1 : j < (l.length : Int)) (hz : l.length ≤ 1000000) (once : onceIn loc = true) (hce : freeAll .list cel = true) :
    Step W lv scope cel loc own (.Assign [.Subscript (.Name x np) i sp] e pos) (put x (.rl (l.set j.toNat b)) (cutLoc .list loc), []) := by
  intro f m s Q E C g
  obtain ⟨v, hv, a, vs, rfl, hnL, hla, hba⟩ := C.lc x _ hl
  rw [arm_exec_Assign]
  refine wpR_bind (wpR_standAt ?_)
  show wpR _ _ (swapsWith e (some (.Subscript (.Name x np) i sp)) pos.line f.env >>= _) Q E s
  rw [swaps_plain hcomp]
  refine wpR_bind (wpR_pure ?_)
  simp only [Bool.false_eq_true, if_false]
  refine wpR_bind ((ev_ok hT n).1 _ _ e _ c e1 hc f f.env s _ E C.env fun u h' tk k r => ?_)
  obtain ⟨t, rfl⟩ := r
  have hsw : swappedStores [.Subscript (.Name x np) i sp] e f.env = pure none := by cases e <;> rfl
  rw [hsw]
  refine wpR_bind (wpR_pure ?_)
  have z : Nx W lv f scope cel own m s loc own m h' tk := Nx.of_stays C k
  show wpR _ _ (do assignAll (.bytes b.toArray t) [assign (.Subscript (.Name x np) i sp) f.env]; pure .next) Q E _
  refine wpR_bind ?_
  show wpR _ _ (assign (.Subscript (.Name x np) i sp) f.env (.bytes b.toArray t)) _ E _
  rw [arm_assign_Subscript]
  refine wpR_bind (wpR_holding (wpR_of (wpAny_Name (wpAny_loadName_local z.ok.ok.k (z.ok.env.lo x (isLoc_eq hx)) z.ok.fr.ns hv ?_) hd0)))
  refine wpR_bind (wpR_holding ((ev_ok hT n).1 _ _ i _ c₂ e2 hc₂ f f.env _ _ E z.ok.env fun u h2 tk2 k2 r => ?_))
  obtain ⟨t', rfl⟩ := r
  have y := z.trans (Nx.of_stays (tk := tk2) z.ok k2)
  have hla2 : h2.IsList a vs.toArray := (Same.of (H := []) (stays_trans k k2)).list List.not_mem_nil hla
  have hsz : vs.toArray.size = l.length := by rw [List.size_toArray, hba.length]
  refine wpR_bind (wpR_standAt (wpR_bindA (wpAny_holding (wpAny_setItem_list (s := ⟨h2, s.gens, s.drawn, tk2, s.os⟩) hla2 h0 (by lia) (by rw [hsz]; exact h1) fun h3 hl3 hs3 => ?_))))
  refine wpR_release ?_
  obtain ⟨ol, ho, hcl, nn, hd⟩ := hla2
  refine wpR_pure (g m h3 tk2 (y.trans (Nx.turned0 (k := .list) (tk := tk2) y.ok hown hv ho ⟨hcl, _, _, hd⟩ (fun b ob nb eb => hs3.extBut b ob nb eb) ⟨a, vs.set j.toNat (.bytes b.toArray t), rfl, hnL, ?_, bytes_set (v := .none) _ hba⟩ once hce)))
  have e : vs.toArray.setIfInBounds j.toNat (.bytes b.toArray t) = (vs.set j.toNat (.bytes b.toArray t)).toArray := by simp
  rw [← e]
  exact hl3
/-- a call that makes a new object of its own -/
noncomputable def CallFr (W : Wd) (lv : Nat) (fv : Value) (sp : Spec) : Prop :=
  ∀ (f : Fm) (s : Shared) (ps : List PV) (vs : List Value) (Q E : Value → Shared → Prop), f.ok W lv → (∃ m, Fr f.h₀ f.L s.heap m) → Reps [] s.heap ps vs →
    Ok (sp ps) fun r => (∀ D h' tk, s.heap.StaysIn h' → Rep [] h' r (.ref D) → s.heap.get? D = none → Bare h' D → Q (.ref D) ⟨h', s.gens, s.drawn, tk, s.os⟩) → wpR (model W.prog W.w) f.A (call fv vs) Q E s
theorem CallFr.call {fv : Value} {sp : Spec} (h : CallFr W lv fv sp) : CallOk W lv fv sp := fun f s ps vs Q E ok F r p c e hc g => h f s ps vs Q E ok F r p c e hc fun D h' tk k r _ _ => g _ _ _ k r
theorem eval_fresh {y : Str} {yp : Pos} {args : List Expr} {fv : Value} {sp : Spec} {ps : List PV} {sc : Sc} (hT : TbOk W lv T) (hn : NameIs W y fv) (hk : Keeps' W fv) (hco : CallFr W lv fv sp) (hg : sc.names.lookup y = some .globalImplicit) (hd : (y == ("__debug__" : Str)) = false)
    (e1 : evs (ev T n).1 sc loc args = some (ps, c)) (hc : c.holds) (e2 : sp ps = some (p, c₂)) (hc₂ : c₂.holds) {env : Env} {Q E : Value → Shared → Prop} (C0 : EnvOk W lv f sc loc env s)
    (g : ∀ D h' tk, s.heap.StaysIn h' → Rep [] h' p (.ref D) → s.heap.get? D = none → Bare h' D → Q (.ref D) ⟨h', s.gens, s.drawn, tk, s.os⟩) : wpR (model W.prog W.w) f.A (eval (.Call (.Name y yp) args [] cp) env) Q E s := by
  have hst := evs_star e1
  refine callNameR (name_fn hn hg hd C0 (callWithR (P := fun h => W.K.In h) (any_star hst) hk (evs_ok (ev_ok hT n).1 args ps c e1 hc f env s cp _ E C0 fun vs h1 tk1 k1 r1 => ⟨(C0.stays (tk := tk1) k1).heapK, ?_⟩)))
  exact hco f _ ps vs Q E C0.ok (C0.stays (tk := tk1) k1).fr r1 p c₂ e2 hc₂ fun D h' tk k r hn hb => g D h' tk (stays_trans k1 k) r (none_back k1 hn) hb
/-- a new object under a name -/
theorem assignF_ok {y : Str} {yp : Pos} {args : List Expr} {fv : Value} {sp : Spec} {ps : List PV} (hT : TbOk W lv T) (hn : NameIs W y fv) (hk : Keeps' W fv) (hco : CallFr W lv fv sp) (hg : scope.names.lookup y = some .globalImplicit) (hd : (y == ("__debug__" : Str)) = false)
    (e1 : evs (ev T n).1 ⟨scope.names, cel⟩ loc args = some (ps, c)) (hc : c.holds) (e2 : sp ps = some (p, c₂)) (hc₂ : c₂.holds) (hx : isLoc scope x = true) (hp : (p.plain || !isNil loc) = true) :
    Step W lv scope cel loc own (.Assign [.Name x xp] (.Call (.Name y yp) args [] cp) pos) (put x p loc, x :: without x own) := by
  intro f m s Q E C g
  rw [exec_Assign_Name (hs := swaps_plain rfl)]
  refine wpR_bind (wpR_standAt (wpR_bind (eval_fresh hT hn hk hco hg hd e1 hc e2 hc₂ C.env fun D h' tk k r hD hb => ?_)))
  have z : Nx W lv f scope cel own m s loc own m h' tk := Nx.of_stays C k
  refine wpR_bind (wpR_standAt (wpR_bindA (wpAny_bindName (z.store hp r (isLoc_eq hx) (fun w hw => ?_) fun m' h2 tk2 y _ => wpR_pure (g m' h2 tk2 y)))))
  rcases List.mem_cons.mp hw with rfl | hw
  · refine .inr ⟨rfl, D, rfl, none_back (fun a o e => C.fr.keep a o e) hD, ⟨hb, fun q => ?_⟩, .inr hD⟩
    obtain ⟨o, _, _, e', _⟩ := ns_data C.fr.ns
    rw [← q, hD] at e'; cases e'
  · exact .inl (mem_without hw)
end
end Nt

set_option Elab.async false
set_option maxRecDepth 100000
set_option linter.all false
open PySem PySem.W PyProof.Rows PySem.Calls
namespace Nt
set_option genInjectivity false
set_option genSizeOf false
/-- a def of the text whose names may be cells -/
structure DefC (W : Wd) (a : Addr) (q : Str) (body : List Stmt) (scope : Scope) (names : List Str) (cd : Value) : Prop where
  def_ : ∃ name params dV pm, (∃ oc od osl, W.K.lookup a = some ⟨oc, od, .func (fnOf name q params body scope dV .none .none pm none cd .none), osl⟩) ∧
    ∀ (s : Shared) (vs : List Value), W.K.In s.heap → vs.length = names.length → BindsTo s (fnOf name q params body scope dV .none .none pm none cd .none) ⟨vs, []⟩ (names.zip vs)
  code : codeIn W.K cd q = true
  kinds : ∀ x ∈ names, scope.names.lookup x = some .local ∨ (scope.names.lookup x = some .cell ∧ ∀ n, ((cellsFrom n scope.names []).lookup x).isSome = true)
  co : scope.isCoroutine = false
  gen : scope.isGenerator = false
  kind : scope.kind = .function
theorem bindL_keep {k : Str → Option NameKind} {x : Str} : ∀ {l : List (Str × Value)} {m : Str → Option Value}, (∀ y ∈ l, y.1 ≠ x) → bindL k l m x = m x
  | [], m, _ => rfl
  | (n, v) :: r, m, h => by
    have hn : n ≠ x := h _ (.head _)
    rw [bindL, bindL_keep fun y hy => h y (.tail _ hy)]
    split
    · exact if_neg (Ne.symm hn)
    · rfl
theorem bindC_keep {k : Str → Option NameKind} {x : Str} : ∀ {l : List (Str × Value)} {m : Str → Option Value}, (∀ y ∈ l, y.1 ≠ x) → bindC k l m x = m x
  | [], m, _ => rfl
  | (n, v) :: r, m, h => by
    have hn : n ≠ x := h _ (.head _)
    rw [bindC, bindC_keep fun y hy => h y (.tail _ hy)]
    split
    · rfl
    · exact if_neg (Ne.symm hn)
theorem zip_apart {x : Str} : ∀ {names : List Str} {vs : List Value}, x ∉ names → ∀ y ∈ names.zip vs, y.1 ≠ x := fun h y hy q => by
  obtain ⟨a, b⟩ := y
  exact h (q ▸ (List.of_mem_zip hy).1)
theorem bindL_zip {k : Str → Option NameKind} {x : Str} {v : Value} (hk : k x = some .local) : ∀ {names : List Str} {vs : List Value} {m : Str → Option Value}, names.Nodup → (names.zip vs).lookup x = some v → bindL k (names.zip vs) m x = some v
  | [], _, _, _, h => by simp at h
  | _ :: _, [], _, _, h => by simp at h
  | n :: ns, u :: us, m, hd, h => by
    rw [List.nodup_cons] at hd
    rw [List.zip_cons_cons, List.lookup_cons] at h
    rw [List.zip_cons_cons, bindL]
    by_cases hx : x = n
    · subst hx
      rw [beq_self_eq_true] at h; cases h
      rw [bindL_keep (zip_apart hd.1), if_pos hk]
      exact if_pos rfl
    · rw [beq_eq_false_iff_ne.mpr hx] at h
      exact bindL_zip hk hd.2 h
theorem bindC_zip {k : Str → Option NameKind} {x : Str} {v : Value} (hk : k x ≠ some .local) : ∀ {names : List Str} {vs : List Value} {m : Str → Option Value}, names.Nodup → (names.zip vs).lookup x = some v → bindC k (names.zip vs) m x = some v
  | [], _, _, _, h => by simp at h
  | _ :: _, [], _, _, h => by simp at h
  | n :: ns, u :: us, m, hd, h => by
    rw [List.nodup_cons] at hd
    rw [List.zip_cons_cons, List.lookup_cons] at h
    rw [List.zip_cons_cons, bindC]
    by_cases hx : x = n
    · subst hx
      rw [beq_self_eq_true] at h; cases h
      rw [bindC_keep (zip_apart hd.1), if_neg hk]
      exact if_pos rfl
    · rw [beq_eq_false_iff_ne.mpr hx] at h
      exact bindC_zip hk hd.2 h
section
variable {W : Wd} {lv : Nat} {f : Fm} {s : Shared} {m : Str → Option Value}
theorem call_defC {a : Addr} {q : Str} {body : List Stmt} {scope : Scope} {names : List Str} {cd : Value} (D : DefC W a q body scope names cd) (nd : names.Nodup) {ps : List PV} {vs : List Value} {Q E : Value → Shared → Prop} {loc cel : Loc}
    (ok : f.ok W (lv + 1)) (F : Fr f.h₀ f.L s.heap m) (hr : Reps [] s.heap ps vs) (hl : ps.length = names.length)
    (hloc : ∀ x p, loc.lookup x = some p → scope.names.lookup x = some .local ∧ (names.zip ps).lookup x = some p) (hcel : ∀ x p, cel.lookup x = some p → scope.names.lookup x = some .cell ∧ (names.zip ps).lookup x = some p)
    (h : ∀ f' m' s', f' = f.callC s.heap a q scope cd (cellsFrom (s.heap.objs.size + 1) scope.names []) → s'.gens = s.gens → s'.drawn = s.drawn → s'.os = s.os → StOk W lv f' scope cel loc [] m' s' → (∀ x c, f'.env.cells.lookup x = some c → c ≠ f'.L ∧ f'.h₀.get? c = none ∧ ∃ v, s'.heap.IsCell c v) →
      wpR (model W.prog W.w) f'.A (execs body f'.env) (fun fl s'' => Q (match fl with | .ret v => v | _ => .none) s'')
        (fun e s'' => wpAny (model W.prog W.w) f'.A (leaving f'.env e) (fun _ s₃ => E e s₃) (fun e' s₃ => E e' s₃) s'') s') :
    wpR (model W.prog W.w) f.A (call (.ref a) vs) Q E s := by
  obtain ⟨name, params, dV, pm, ⟨oc, od, osl, hK⟩, hb⟩ := D.def_
  have X := ok.X.keeps F.keep
  have hlen : vs.length = names.length := by rw [hr.length, hl]
  refine wpR_call (codeR_call_function (fd := fnOf name q params body scope dV .none .none pm none cd .none) (body := body) ?_ (X _ _ hK) rfl D.co D.gen rfl (codeRec_of X D.code) ?_)
  · show f.dp < _
    have := ok.rd; lia
  refine hb _ vs X hlen _ _ _ _ ?_
  refine wpAny_newFunctionEnv_cells D.kind (fun x hx => ?_) fun env he s' hs' => ?_
  · obtain ⟨y, z⟩ := x
    exact (D.kinds y (List.of_mem_zip hx).1).imp id fun k => ⟨k.1, k.2 _⟩
  subst he
  have F' : Fr s.heap s.heap.objs.size s'.heap (bindL (fun x => scope.names.lookup x) (names.zip vs) fun _ => none) := ⟨hs'.toInCall.ns, hs'.toInCall.keep, Nat.le_refl _⟩
  refine ⟨ok.T.nolimit.keeps fun b o e => F'.keep b o (F.keep b o e), codeR_func ?_⟩
  obtain ⟨hh, tk, es⟩ := hs'.toInCall.same
  have rep : ∀ x p, (names.zip ps).lookup x = some p → ∃ v, (names.zip vs).lookup x = some v ∧ Rep [s.heap.objs.size] s'.heap p v := fun x p e => by
    obtain ⟨v, e1, e2⟩ := lc_zip hl.symm (hr.less' (H := [s.heap.objs.size]) fun o ⟨b, hb, e⟩ => by
      rw [List.mem_singleton.mp hb] at e
      exact absurd (Heap.lt_size e) (Nat.lt_irrefl _)) x p e
    exact ⟨v, e1, e2.same fun b o nb e => F'.keep b o e⟩
  have st : StOk W lv (f.callC s.heap a q scope cd (cellsFrom (s.heap.objs.size + 1) scope.names [])) scope cel loc [] (bindL (fun x => scope.names.lookup x) (names.zip vs) fun _ => none) s' := by
    refine ⟨rfl, fun x p e => ?_, Fm.callC_ok ok F D.kind, F', fun x p e => ?_, fun _ hx => nomatch hx⟩
    · obtain ⟨k1, k2⟩ := hcel x p e
      obtain ⟨v, e1, e2⟩ := rep x p k2
      have hin : x ∈ names := by
        have := mem_of_lookup e1
        exact (List.of_mem_zip this).1
      obtain ⟨c, hc⟩ : ∃ c, (cellsFrom (s.heap.objs.size + 1) scope.names []).lookup x = some c := by
        rcases D.kinds x hin with k | k
        · rw [k1] at k; cases k
        · exact Option.isSome_iff_exists.mp (k.2 _)
      refine ⟨.inl k1, c, v, hc, ?_, e2⟩
      have this : s'.heap.IsCell c (bindC (fun x => scope.names.lookup x) (names.zip vs) (fun _ => none) x) := hs'.cell x c hc
      rw [bindC_zip (k := fun x => scope.names.lookup x) (by rw [k1]; intro q; cases q) nd e1] at this
      exact this
    · obtain ⟨k1, k2⟩ := hloc x p e
      obtain ⟨v, e1, e2⟩ := rep x p k2
      exact ⟨v, bindL_zip k1 nd e1, e2⟩
  refine h _ _ s' rfl (by rw [es]) (by rw [es]) (by rw [es]) st fun x c hc => ?_
  have hlt := hs'.above x c (mem_of_lookup hc)
  exact ⟨Nat.ne_of_gt hlt, Heap.get?_none_of_le (Nat.le_of_lt hlt), _, hs'.cell x c hc⟩
/-- a def with cells and no raise answers its spec -/
theorem fnC_ok {a : Addr} {q : Str} {body : List Stmt} {scope : Scope} {names : List Str} {cd : Value} (D : DefC W a q body scope names cd) (nd : names.Nodup) {sp : Spec}
    (h : ∀ ps r c, sp ps = some (r, c) → c.holds → ps.length = names.length ∧ ∃ loc cel, (∀ x p, loc.lookup x = some p → scope.names.lookup x = some .local ∧ (names.zip ps).lookup x = some p) ∧ (∀ x p, cel.lookup x = some p → scope.names.lookup x = some .cell ∧ (names.zip ps).lookup x = some p) ∧
      Runs XAt W lv scope cel loc [] body (fun o => o = .ret r)) : CallOk W (lv + 1) (.ref a) sp := by
  intro f s ps vs Q E ok ⟨m, F⟩ hr r c e hc g
  obtain ⟨hl, loc, cel, h1, h2, hR⟩ := h ps r c e hc
  refine call_defC D nd ok F hr hl h1 h2 fun f' m' s' hf hg hd hos st _ => ?_
  subst hf
  refine hR _ _ _ _ _ st ⟨fun l o _ _ _ k => (nomatch k), fun p v m₂ h₂ tk k F₂ r₂ => ?_, fun C k => nomatch k⟩
  cases k
  rw [hg, hd, hos]
  exact g v h₂ tk (fun b o e => F₂.keep b o e) r₂
end
end Nt

set_option Elab.async false
set_option maxRecDepth 100000
set_option linter.all false
open PySem PySem.W PyProof.Rows PySem.Calls
namespace Nt
set_option genInjectivity false
set_option genSizeOf false
noncomputable def PV.told? : (p : PV) → Option {i : Str × List UInt8 × Int // p = .pair (.pair (.str i.1) (.bytes i.2.1)) (.int i.2.2)}
  | .pair (.pair (.str x) (.bytes b)) (.int n) => some ⟨(x, b, n), rfl⟩
  | _ => Option.none
noncomputable def cmBase (op : CmpOp) (a b : PV) : Option (Bool × Cond) := match op with
  | .NotEq => alt (with_ a.told? fun x => with_ b.told? fun y => some (!(((x.1.1 == y.1.1) && (x.1.2.1 == y.1.2.1)) && (x.1.2.2 == y.1.2.2)), none)) (onlyIf (a.isNone && b.isNone) (some (false, none)))
  | _ => none
section
variable {prog : Program} {w : World} {A : Around} {s : Shared}
theorem tup_is {h : Heap} {a : Addr} {items : Array Value} (x : IsTup h a items) : h.IsTuple a items := let ⟨o, h1, h2, n, h3⟩ := x; ⟨o, h1, h2, n, h3⟩
theorem isNone_eq {p : PV} (h : p.isNone = true) : p = .none := by cases p <;> first | rfl | cases h
theorem cmBase_ok (op : CmpOp) (a b : PV) : Ok (cmBase op a b) fun r => ∀ (A : Around) (s : Shared) (x y : Value) (Q E : Value → Shared → Prop), A.units + 64 < cLine → Rep [] s.heap a x → Rep [] s.heap b y → Q (.bool r) s → wpAny (model prog w) A (compareOp op x y) Q E s := by
  unfold cmBase
  cases op <;> first | exact .none | skip
  refine .alt (.with_ fun i _ => .with_ fun j _ => .some fun _ A s x y Q E hA ra rb hq => ?_) (.onlyIf fun h => .some fun _ A s x y Q E hA ra rb hq => ?_)
  · obtain ⟨a1, x1, x2, rfl, _, t1, ⟨a2, y1, y2, rfl, _, t2, ⟨u1, rfl⟩, ⟨u2, rfl⟩⟩, ⟨u3, rfl⟩⟩ := ra.at i.2
    obtain ⟨b1, z1, z2, rfl, _, t3, ⟨b2, w1, w2, rfl, _, t4, ⟨v1, rfl⟩, ⟨v2, rfl⟩⟩, ⟨v3, rfl⟩⟩ := rb.at j.2
    have inner : SeqAt.EqAt A.in1 s (.ref a2) (.ref b2) ((i.1.1 == j.1.1) && (i.1.2.1 == j.1.2.1)) := by
      by_cases q : a2 = b2
      · subst q
        obtain ⟨o, h1, _, n, h2⟩ := t2
        obtain ⟨o', g1, _, n', g2⟩ := t4
        rw [h1] at g1; cases g1
        rw [h2] at g2
        have e : (#[Value.str i.1.1 u1, .bytes i.1.2.1.toArray u2] : Array Value) = #[Value.str j.1.1 v1, .bytes j.1.2.1.toArray v2] := by
          injection g2
        have e1 : i.1.1 = j.1.1 := by
          have := congrArg (fun a : Array Value => a[0]?) e
          simp at this
          exact this.1
        have e2 : i.1.2.1 = j.1.2.1 := by
          have := congrArg (fun a : Array Value => a[1]?) e
          simp at this
          exact this.1
        rw [e1, e2, beq_self_eq_true, beq_self_eq_true]
        exact SeqAt.EqAt.same _
      · have := SeqAt.RcAt.tuples (A := A.in1) (s := s) (e := fun k => match k with | 0 => i.1.1 == j.1.1 | _ => i.1.2.1 == j.1.2.1) (tup_is t2) (tup_is t4) (by show A.units + 1 < _; lia) fun k h1 h2 => by
          match k, h1 with
          | 0, _ => exact (eqGives_str _ _ _ _).at _ _
          | 1, _ => exact (eqGives_bytes _ _ _ _).at _ _
        refine SeqAt.EqAt.of_refs q ?_
        have e : ((List.range (min (#[Value.str i.1.1 u1, Value.bytes i.1.2.1.toArray u2] : Array Value).size (#[Value.str j.1.1 v1, Value.bytes j.1.2.1.toArray v2] : Array Value).size)).all (fun k => match k with | 0 => i.1.1 == j.1.1 | _ => i.1.2.1 == j.1.2.1) && (#[Value.str i.1.1 u1, Value.bytes i.1.2.1.toArray u2] : Array Value).size == (#[Value.str j.1.1 v1, Value.bytes j.1.2.1.toArray v2] : Array Value).size) = ((i.1.1 == j.1.1) && (i.1.2.1 == j.1.2.1)) := by
          show (List.all [0, 1] _ && true) = _
          simp
        rw [e] at this
        exact this
    have := SeqAt.RcNeAt.tuples (A := A) (s := s) (e := fun k => match k with | 0 => (i.1.1 == j.1.1) && (i.1.2.1 == j.1.2.1) | _ => i.1.2.2 == j.1.2.2) (tup_is t1) (tup_is t3) (by lia) fun k h1 h2 => by
      match k, h1 with
      | 0, _ => exact inner
      | 1, _ => exact (MeetsSeq.EqGives.int _ _ _ _).at _ _
    refine this prog w E Q ?_
    have e : (!((List.range (min (#[Value.ref a2, Value.int i.1.2.2 u3] : Array Value).size (#[Value.ref b2, Value.int j.1.2.2 v3] : Array Value).size)).all (fun k => match k with | 0 => (i.1.1 == j.1.1) && (i.1.2.1 == j.1.2.1) | _ => i.1.2.2 == j.1.2.2) && (#[Value.ref a2, Value.int i.1.2.2 u3] : Array Value).size == (#[Value.ref b2, Value.int j.1.2.2 v3] : Array Value).size)) = !(((i.1.1 == j.1.1) && (i.1.2.1 == j.1.2.1)) && (i.1.2.2 == j.1.2.2)) := by
      show (!(List.all [0, 1] _ && true)) = _
      simp
    rw [e]
    exact hq
  · obtain ⟨h1, h2⟩ := Bool.and_eq_true_iff.mp h
    rw [isNone_eq h1] at ra
    rw [isNone_eq h2] at rb
    cases (show x = .none from ra)
    cases (show y = .none from rb)
    exact SeqAt.RcNeAt.none_none prog w E Q hq
end
end Nt

set_option Elab.async false
set_option maxRecDepth 100000
set_option linter.all false
open PySem PySem.W PyProof.Rows PySem.Calls
namespace Nt
set_option genInjectivity false
set_option genSizeOf false
set_option compiler.extract_closed false
section
variable {W : Wd} {P : Params}
theorem args1 {vs : List Value} (h : vs.length = 1) : ∃ a, vs = [a] := by
  cases vs with
  | nil => cases h
  | cons a r => cases r with
    | nil => exact ⟨a, rfl⟩
    | cons b r => cases h
theorem args2 {vs : List Value} (h : vs.length = 2) : ∃ a b, vs = [a, b] := by
  cases vs with
  | nil => cases h
  | cons a r => obtain ⟨b, rfl⟩ := args1 (vs := r) (Nat.succ.inj h); exact ⟨a, b, rfl⟩
theorem args3 {vs : List Value} (h : vs.length = 3) : ∃ a b c, vs = [a, b, c] := by
  cases vs with
  | nil => cases h
  | cons a r => obtain ⟨b, c, rfl⟩ := args2 (vs := r) (Nat.succ.inj h); exact ⟨a, b, c, rfl⟩
end
end Nt

set_option Elab.async false
set_option maxRecDepth 100000
set_option linter.all false
open PySem PySem.W PyProof.Rows PySem.Calls
namespace Nt
set_option genInjectivity false
set_option genSizeOf false
set_option compiler.extract_closed false
noncomputable def sCodec : Spec
  | [] => some (.codec, none)
  | _ => none
noncomputable def sList : Spec
  | [p] => with_ p.rl? fun l => some (.rl l.1, some (l.1.length ≤ 16777216))
  | _ => none
noncomputable def sBa : Spec
  | [] => some (.ba [], none)
  | [p] => with_ p.il? fun l => match l.1 with
    | [i] => some (.ba [i.toNat.toUInt8], some (0 ≤ i ∧ i < 256))
    | _ => none
  | _ => none
section
variable {W : Wd} {lv : Nat} {P : Params}
theorem makes_codec : makesIn (KK P) 219 = true := by kernel_rfl
theorem init_codec : findIn (KK P) (.ref 219) "__init__" = some (some (.builtin "object.__init__")) := by kernel_rfl
theorem get_pack : plainGet (KK P) 219 "pack" = true := by kernel_rfl
theorem get_unpack : plainGet (KK P) 219 "unpack" = true := by kernel_rfl
theorem find_pack : findIn (KK P) (.ref 219) "pack" = some (some (.ref 208)) := by kernel_rfl
theorem find_unpack : findIn (KK P) (.ref 219) "unpack" = some (some (.ref 216)) := by kernel_rfl
theorem fn_pack : isFn (KK P) (.ref 208) = true := by kernel_rfl
theorem fn_unpack : isFn (KK P) (.ref 216) = true := by kernel_rfl
theorem codec_ok (hW : W.K = KK P) : CallOk W lv (.ref 219) sCodec := by
  intro f s ps vs Q E ok ⟨m, F⟩ r
  rcases ps with _ | _
  · cases (show vs = [] from r)
    refine .some fun _ g => wpR_of (wpAny_call ?_)
    have X := ok.X.keeps F.keep
    rw [hW] at X
    obtain ⟨hh, gs, d, t, os⟩ := s
    have Y := makes_of (M := model W.prog W.w) X makes_codec
    have k2 : hh.StaysIn ((hh.push emptyDict).push (instObj 219 hh.objs.size)) := stays_trans (stays_push _ _) (stays_push _ _)
    have hx : ((hh.push emptyDict).push (instObj 219 hh.objs.size)).get? (hh.objs.size + 1) = some (instObj 219 hh.objs.size) := by heap_get
    have hd : ((hh.push emptyDict).push (instObj 219 hh.objs.size)).get? hh.objs.size = some emptyDict := Heap.get?_push_of_some _ (Heap.get?_push_size _ rfl)
    refine make_core Y (looks_findIn X init_codec) (fun self => Looks.of_pure (oi_bind self)) (.inr ⟨rfl, rfl⟩) ?_
    have t1 : Looks (model W.prog W.w) ((hh.push emptyDict).push (instObj 219 hh.objs.size)) (typeOf (.ref (hh.objs.size + 1))) (.ref 219) := (Looks.ld hx).andThen .now
    have t2 : Looks (model W.prog W.w) ((hh.push emptyDict).push (instObj 219 hh.objs.size)) (isInstance (.ref (hh.objs.size + 1)) (.type "object")) true := t1.andThen (Y.top.keeps k2)
    refine codeAny_call_builtin oi_plain entry_oi (@check_slot (model W.prog W.w) _ _ _ "object.__init__" "object" "__init__" (.ref (hh.objs.size + 1)) [] [] _ oi_kind oi_split t2 (oi_args (.ref (hh.objs.size + 1))) ?_)
    rw [oi_run]
    exact wpAny_pure (And.intro rfl (g _ _ _ k2 ⟨_, _, rfl, List.not_mem_nil, List.not_mem_nil, hx, hd⟩))
  · exact .none
theorem codec_inst {h : Heap} {v : Value} (r : Rep [] h .codec v) : ∃ a dx, v = .ref a ∧ InstAt h a (instO 219 dx) 219 (some (dictOf [] 0)) := by
  obtain ⟨a, dx, rfl, _, _, h1, h2⟩ := r
  exact ⟨a, dx, rfl, ⟨h1, rfl, rfl, h2⟩⟩
theorem meth_codec (hW : W.K = KK P) {x : Str} {fa : Addr} {sp : Spec} {ps : List PV} {r : PV} {c : Cond} (hg : plainGet (KK P) 219 x = true) (hf : findIn (KK P) (.ref 219) x = some (some (.ref fa))) (ht : isFn (KK P) (.ref fa) = true) (hk : Keeps' W (.ref fa)) (hco : CallOk W lv (.ref fa) sp)
    (e : sp (.codec :: ps) = some (r, c)) (hc : c.holds) : MethOk W lv x .codec ps r := by
  intro f s v pl Q' E' ok ⟨m, F⟩ hr h
  obtain ⟨a, dx, rfl, I⟩ := codec_inst hr
  refine method_inst F (by have := ok.X; rw [hW] at this; exact this) I hg hf ht rfl (h (.ref fa, [.ref a]) hk fun s' us Q E F' k r' g => ?_)
  exact hco f s' (.codec :: ps) (.ref a :: us) Q E ok F' ⟨.ref a, us, rfl, hr.stays k, r'⟩ r c e hc g
theorem methX_codec (hW : W.K = KK P) {x : Str} {fa : Addr} {dom : List PV → Prop} {KK' : List PV → Out → Prop} (hg : plainGet (KK P) 219 x = true) (hf : findIn (KK P) (.ref 219) x = some (some (.ref fa))) (ht : isFn (KK P) (.ref fa) = true) (hk : Keeps' W (.ref fa)) (hco : CallXOk W lv (.ref fa) dom KK') :
    MethXOk W lv x .codec (fun ps => dom (.codec :: ps)) (fun ps => KK' (.codec :: ps)) := by
  intro f s v pl Q' E' ok ⟨m, F⟩ hr h
  obtain ⟨a, dx, rfl, I⟩ := codec_inst hr
  refine method_inst F (by have := ok.X; rw [hW] at this; exact this) I hg hf ht rfl (h (.ref fa, [.ref a]) hk fun s' m' ps us Q E F' k r' hd g1 g2 => ?_)
  exact hco f s' m' (.codec :: ps) (.ref a :: us) Q E ok F' ⟨.ref a, us, rfl, hr.stays k, r'⟩ hd g1 g2
theorem list_fr : CallFr W lv (.type "list") sList := by
  intro f s ps vs Q E ok F r
  rcases ps with _ | ⟨p, _ | _⟩
  · exact .none
  · obtain ⟨v, rfl, r1⟩ := reps1 r
    refine .with_ fun l _ => .some fun hc g => ?_
    obtain ⟨a, us, rfl, _, hl, hb⟩ := r1.at l.2
    obtain ⟨o, h1, h2, n, h3⟩ := hl
    refine wpR_of (call_list_seq (hsz := by rw [List.size_toArray, hb.length, sizeLine_eq]; exact hc) a (.inl rfl) h1 h2 h3 fun h' c' k e => g _ h' _ k ⟨_, us, rfl, List.not_mem_nil, ⟨_, e, rfl, _, rfl⟩, hb⟩ (new_none _) ⟨_, e, rfl, rfl⟩)
  · exact .none
theorem ba_fr : CallFr W lv (.type "bytearray") sBa := by
  intro f s ps vs Q E ok F r
  rcases ps with _ | ⟨p, _ | _⟩
  · cases (show vs = [] from r)
    exact .some fun _ g => call_ba0 fun h' k e => g _ h' _ k ⟨_, rfl, List.not_mem_nil, e⟩ (new_none _) ⟨_, e, rfl, rfl⟩
  · obtain ⟨v, rfl, r1⟩ := reps1 r
    refine .with_ fun l _ => ?_
    obtain ⟨a, us, rfl, _, hl, hb⟩ := r1.at l.2
    rcases hi : l.1 with _ | ⟨i, _ | _⟩
    · exact .none
    · refine .some fun hc g => ?_
      rw [hi] at hb
      cases hb with
      | cons n t hb' =>
        cases hb'
        exact call_ba1 hl hc.1 hc.2 fun h' k e => g _ h' _ k ⟨_, rfl, List.not_mem_nil, e⟩ (new_none _) ⟨_, e, rfl, rfl⟩
    · exact .none
  · exact .none
end
end Nt

set_option Elab.async false
set_option maxRecDepth 100000
set_option linter.all false
open PySem PySem.W PyProof.Rows PySem.Calls
namespace Nt
set_option genInjectivity false
set_option genSizeOf false
set_option compiler.extract_closed false
noncomputable def SG : List UInt8 := [48,49,50,51,52,53,54,55,56,57,65,66,67,68,69,70,71,72,73,74,75,76,77,78,79,80,81,82,83,84,85,86,87,88,89,90,97,98,99,100,101,102,103,104,105,106,107,108,109,110,111,112,113,114,115,116,117,118,119,120,121,122,33,35,36,37,38,40,41,42,43,45,59,60,61,62,63,64,94,95,96,123,124,125,126]
noncomputable def LT : List UInt8 := [65,66,67,68,69,70,71,72,73,74,75,76,77,78,79,80,81,82,83,84,85,86,87,88,89,90,97,98,99,100,101,102,103,104,105,106,107,108,109,110,111,112,113,114,115,116,117,118,119,120,121,122]
noncomputable def look {α : Type} : List (Str × α) → Str → Option α
  | [], _ => none
  | (y, a) :: r, x => match y == x with
    | true => some a
    | false => look r x
theorem look_use {α : Type} {Pr : Str → α → Prop} : ∀ {l : List (Str × α)} {x : Str} {a : α}, (∀ y ∈ l, Pr y.1 y.2) → look l x = some a → Pr x a
  | [], _, _, _, e => nomatch e
  | (y, b) :: r, x, a, h, e => by
    replace e : (match y == x with | true => some b | false => look r x) = some a := e
    cases q : y == x with
    | true =>
      rw [q] at e
      cases e
      rw [← eq_of_beq q]
      exact h _ (.head _)
    | false =>
      rw [q] at e
      exact look_use (fun z hz => h z (.tail _ hz)) e
noncomputable def sLen2 : Spec
  | [p] => alt (sLen [p]) (with_ p.ba? fun b => some (.int b.1.length, some (b.1.length ≤ 16777216)))
  | _ => none
noncomputable def sBytes2 : Spec
  | [p] => alt (sBytes [p]) (alt (with_ p.int? fun n => some (.bytes (List.replicate n.1.toNat 0), some (0 ≤ n.1 ∧ n.1 ≤ 1000000))) (with_ p.ba? fun b => some (.bytes b.1, some (b.1.length ≤ 16777216))))
  | _ => none
noncomputable def sFind (o : PV) : Spec
  | [p] => with_ o.bytes? fun b => with_ p.bytes? fun c => some (.int (findB b.1 c.1), none)
  | _ => none
noncomputable def sSplit (o : PV) : Spec
  | [p] => with_ o.bytes? fun b => with_ p.bytes? fun c => some (.rl (splitB b.1 c.1), some (c.1 ≠ [] ∧ b.1.length ≤ 1048576))
  | _ => none
noncomputable def sJoin (o : PV) : Spec
  | [p] => alt (with_ o.bytes? fun b => with_ p.rl? fun l => some (.bytes l.1.flatten, some (b.1 = [] ∧ 2 ≤ l.1.length ∧ l.1.flatten.length ≤ 16777216)))
      (with_ o.str? fun x => with_ p.sl? fun l => some (.str (Txt.join x.1 l.1), some ((l.1.map (·.length)).sum + l.1.length * x.1.length ≤ 16777216)))
  | _ => none
noncomputable def T0 : Tb where
  G := look [("FEED", .bytes [10]), ("SIGNS_85", .bytes SG), ("ROW_85", .int 52), ("NOUGHT_SIGN", .int 48), ("_law_signs", .bytes SG), ("_law_letters", .bytes LT)]
  C := look [("len", sLen2), ("bytes", sBytes2), ("ord", sOrd), ("chr", sChr), ("abs", sAbs), ("max", sMax), ("int", sInt), ("str", sStr), ("range", sRange), ("list", sList), ("bytearray", sBa), ("StoredCodec", sCodec)]
  Mt := fun x o => match look [("find", sFind o), ("split", sSplit o), ("join", sJoin o)] x with
    | some sp => sp
    | none => fun _ => none
  Cm := cmBase
/-- one more callable -/
noncomputable def more (x : Str) (sp : Spec) (C : Str → Option Spec) (y : Str) : Option Spec := match x == y with
  | true => some sp
  | false => C y
noncomputable def Tb.fn (T : Tb) (x : Str) (sp : Spec) : Tb := { T with C := more x sp T.C }
noncomputable def sOf (o : PV) (sp : Spec) (ps : List PV) : Option (PV × Cond) := match o with
  | .codec => sp (.codec :: ps)
  | _ => none
noncomputable def moreM (x : Str) (sp : Spec) (y : Str) (o : PV) (ps : List PV) : Option (PV × Cond) := match x == y with
  | true => sOf o sp ps
  | false => none
/-- one more method of the codec -/
noncomputable def Tb.me (T : Tb) (x : Str) (sp : Spec) : Tb := { T with Mt := fun y o ps => alt (moreM x sp y o ps) (T.Mt y o ps) }
section
variable {W : Wd} {lv : Nat} {P : Params}
theorem len2_ok : CallOk W lv (.builtin "len") sLen2 := by
  intro f s ps vs Q E ok F r
  rcases ps with _ | ⟨p, _ | _⟩
  · exact .none
  · refine .alt (len_ok f s _ vs Q E ok F r) (.with_ fun b _ => .some fun hc g => ?_)
    obtain ⟨v, rfl, r1⟩ := reps1 r
    obtain ⟨a, rfl, _, h⟩ := r1.at b.2
    exact wpR_of (call_len_ba h hc fun t k => g.int _ _)
  · exact .none
theorem bytes2_ok : CallOk W lv (.type "bytes") sBytes2 := by
  intro f s ps vs Q E ok F r
  rcases ps with _ | ⟨p, _ | _⟩
  · exact .none
  · refine .alt (bytes_ok f s _ vs Q E ok F r) (.alt (.with_ fun b _ => .some fun hc g => ?_) (.with_ fun b _ => .some fun hc g => ?_))
    · obtain ⟨v, rfl, r1⟩ := reps1 r
      obtain ⟨t, rfl⟩ := r1.at b.2
      refine wpR_of (call_bytes_int hc.1 hc.2 fun t k => ?_)
      have := g.bytes t k
      rw [List.toArray_replicate] at this
      exact this
    · obtain ⟨v, rfl, r1⟩ := reps1 r
      obtain ⟨a, rfl, _, h⟩ := r1.at b.2
      exact wpR_of (call_bytes_ba h hc fun t k => g.bytes t k)
  · exact .none
theorem meth_join {x : Str} {l : List Str} (hz : (l.map (·.length)).sum + l.length * x.length ≤ 16777216) : MethOk W lv "join" (.str x) [.sl l] (.str (Txt.join x l)) := by
  intro f s v pl Q' E' ok F r h
  obtain ⟨t, rfl⟩ := r
  refine GM.join (h (.builtin "str.join", [.str x t]) keeps_builtin fun s' us Q E F' k r' g => ?_)
  obtain ⟨u, rfl, r1⟩ := reps1 r'
  obtain ⟨a, vs, rfl, _, hl, hi⟩ := r1
  exact wpR_of (join_list hl hi hz fun t' k => g _ _ _ (stays_refl _) ⟨t', rfl⟩)
theorem find_ok (o : PV) (ps : List PV) : Ok (sFind o ps) fun r => MethOk W lv "find" o ps r := by
  rcases ps with _ | ⟨p, _ | _⟩
  · exact .none
  · refine .with_ fun b _ => .with_ fun c _ => .some fun _ => ?_
    obtain ⟨b, rfl⟩ := b; obtain ⟨c, rfl⟩ := c; exact meth_find
  · exact .none
theorem split_ok (o : PV) (ps : List PV) : Ok (sSplit o ps) fun r => MethOk W lv "split" o ps r := by
  rcases ps with _ | ⟨p, _ | _⟩
  · exact .none
  · refine .with_ fun b _ => .with_ fun c _ => .some fun hc => ?_
    obtain ⟨b, rfl⟩ := b; obtain ⟨c, rfl⟩ := c; exact meth_split hc.1 hc.2
  · exact .none
theorem join_ok' (o : PV) (ps : List PV) : Ok (sJoin o ps) fun r => MethOk W lv "join" o ps r := by
  rcases ps with _ | ⟨p, _ | _⟩
  · exact .none
  · refine .alt (.with_ fun b _ => .with_ fun c _ => .some fun hc => ?_) (.with_ fun b _ => .with_ fun c _ => .some fun hc => ?_)
    · obtain ⟨b, rfl⟩ := b; obtain ⟨c, rfl⟩ := c; obtain ⟨rfl, h1, h2⟩ := (show b = [] ∧ _ from hc); exact meth_joinB h1 h2
    · obtain ⟨b, rfl⟩ := b; obtain ⟨c, rfl⟩ := c; exact meth_join hc
  · exact .none
theorem nm_bi (hW : W.K = KK P) {x : Str} {fv : Value} (h1 : nsIn (KK P) mainGlobals x = some none) (h2 : bootBuiltins x = some fv) (h3 : (x == ("__name__" : Str)) = false) : NameIs W x fv := .inr ⟨by rw [hW]; exact h1, h2, fun e => by rw [e, beq_self_eq_true] at h3; cases h3⟩
theorem nm_fn (hW : W.K = KK P) {x : Str} {fv : Value} (h1 : nsIn (KK P) mainGlobals x = some (some fv)) : NameIs W x fv := .inl (by rw [hW]; exact h1)
theorem keeps_of (hW : W.K = KK P) {fv : Value} (h : keepIn (KK P) fv = true) : Keeps' W fv := fun hp hK => keeps_K h hp (by rw [← hW]; exact hK)
theorem cod_keeps (hW : W.K = KK P) : Keeps' W (.ref 219) := keeps_of hW (by kernel_rfl)
theorem T0_ok (hW : W.K = KK P) : TbOk W lv T0 where
  g := fun x p e => by
    refine look_use (Pr := fun x p => ∃ v, nsIn W.K mainGlobals x = some (some v) ∧ Rp p v) (fun y hy => ?_) e
    rw [hW]
    rcases List.mem_cons.mp hy with rfl | hy
    · exact ⟨.bytes #[10] 366, by kernel_rfl, fun _ _ => ⟨_, rfl⟩⟩
    rcases List.mem_cons.mp hy with rfl | hy
    · exact ⟨.bytes SG.toArray 370, by kernel_rfl, fun _ _ => ⟨_, rfl⟩⟩
    rcases List.mem_cons.mp hy with rfl | hy
    · exact ⟨.int 52 372, by kernel_rfl, fun _ _ => ⟨_, rfl⟩⟩
    rcases List.mem_cons.mp hy with rfl | hy
    · exact ⟨.int 48 189, by kernel_rfl, fun _ _ => ⟨_, rfl⟩⟩
    rcases List.mem_cons.mp hy with rfl | hy
    · exact ⟨.bytes SG.toArray 487, by kernel_rfl, fun _ _ => ⟨_, rfl⟩⟩
    rcases List.mem_cons.mp hy with rfl | hy
    · exact ⟨.bytes LT.toArray 489, by kernel_rfl, fun _ _ => ⟨_, rfl⟩⟩
    cases hy
  c := fun x sp e => by
    refine look_use (Pr := fun x sp => ∃ fv, NameIs W x fv ∧ Keeps' W fv ∧ CallOk W lv fv sp) (fun y hy => ?_) e
    rcases List.mem_cons.mp hy with rfl | hy
    · exact ⟨_, nm_bi hW (by kernel_rfl) (by kernel_rfl) (by kernel_rfl), keeps_builtin, len2_ok⟩
    rcases List.mem_cons.mp hy with rfl | hy
    · exact ⟨_, nm_bi hW (by kernel_rfl) (by kernel_rfl) (by kernel_rfl), keeps_type, bytes2_ok⟩
    rcases List.mem_cons.mp hy with rfl | hy
    · exact ⟨_, nm_bi hW (by kernel_rfl) (by kernel_rfl) (by kernel_rfl), keeps_builtin, ord_ok⟩
    rcases List.mem_cons.mp hy with rfl | hy
    · exact ⟨_, nm_bi hW (by kernel_rfl) (by kernel_rfl) (by kernel_rfl), keeps_builtin, chr_ok⟩
    rcases List.mem_cons.mp hy with rfl | hy
    · exact ⟨_, nm_bi hW (by kernel_rfl) (by kernel_rfl) (by kernel_rfl), keeps_builtin, abs_ok⟩
    rcases List.mem_cons.mp hy with rfl | hy
    · exact ⟨_, nm_bi hW (by kernel_rfl) (by kernel_rfl) (by kernel_rfl), keeps_builtin, max_ok⟩
    rcases List.mem_cons.mp hy with rfl | hy
    · exact ⟨_, nm_bi hW (by kernel_rfl) (by kernel_rfl) (by kernel_rfl), keeps_type, int_ok⟩
    rcases List.mem_cons.mp hy with rfl | hy
    · exact ⟨_, nm_bi hW (by kernel_rfl) (by kernel_rfl) (by kernel_rfl), keeps_type, str_ok⟩
    rcases List.mem_cons.mp hy with rfl | hy
    · exact ⟨_, nm_bi hW (by kernel_rfl) (by kernel_rfl) (by kernel_rfl), keeps_type, range_ok⟩
    rcases List.mem_cons.mp hy with rfl | hy
    · exact ⟨_, nm_bi hW (by kernel_rfl) (by kernel_rfl) (by kernel_rfl), keeps_type, (list_fr).call⟩
    rcases List.mem_cons.mp hy with rfl | hy
    · exact ⟨_, nm_bi hW (by kernel_rfl) (by kernel_rfl) (by kernel_rfl), keeps_type, (ba_fr).call⟩
    rcases List.mem_cons.mp hy with rfl | hy
    · exact ⟨_, nm_fn hW (by kernel_rfl), cod_keeps hW, codec_ok hW⟩
    cases hy
  m := fun x o ps => by
    show Ok ((match look [("find", sFind o), ("split", sSplit o), ("join", sJoin o)] x with
      | some sp => sp
      | none => fun _ => none) ps) _
    cases e : look [("find", sFind o), ("split", sSplit o), ("join", sJoin o)] x with
    | none => exact .none
    | some sp =>
      refine look_use (Pr := fun x sp => Ok (sp ps) fun r => MethOk W lv x o ps r) (fun y hy => ?_) e
      rcases List.mem_cons.mp hy with rfl | hy
      · exact find_ok o ps
      rcases List.mem_cons.mp hy with rfl | hy
      · exact split_ok o ps
      rcases List.mem_cons.mp hy with rfl | hy
      · exact join_ok' o ps
      cases hy
  cm := fun op a b => cmBase_ok op a b
theorem TbOk.fn {T : Tb} (h : TbOk W lv T) {x : Str} {fv : Value} {sp : Spec} (hn : NameIs W x fv) (hk : Keeps' W fv) (hc : CallOk W lv fv sp) : TbOk W lv (T.fn x sp) where
  g := h.g
  c := fun y sp' e => by
    change more x sp T.C y = some sp' at e
    unfold more at e
    split at e
    · rename_i q
      cases e
      rw [← eq_of_beq q]
      exact ⟨fv, hn, hk, hc⟩
    · exact h.c y sp' e
  m := h.m
  cm := h.cm
theorem TbOk.me (hW : W.K = KK P) {T : Tb} (h : TbOk W lv T) {x : Str} {fa : Addr} {sp : Spec} (hg : plainGet (KK P) 219 x = true) (hf : findIn (KK P) (.ref 219) x = some (some (.ref fa))) (ht : isFn (KK P) (.ref fa) = true) (hk : Keeps' W (.ref fa)) (hc : CallOk W lv (.ref fa) sp) : TbOk W lv (T.me x sp) where
  g := h.g
  c := h.c
  m := fun y o ps => by
    refine .alt ?_ (h.m y o ps)
    unfold moreM
    split
    · rename_i q
      rw [← eq_of_beq q]
      cases o with
      | codec => exact fun r c e hcc => meth_codec hW hg hf ht hk hc e hcc
      | _ => exact .none
    · exact .none
  cm := h.cm
end
end Nt

set_option Elab.async false
set_option maxRecDepth 100000
set_option linter.all false
open PySem PySem.W PyProof.Rows PySem.Calls
namespace Nt
set_option genInjectivity false
set_option genSizeOf false
set_option compiler.extract_closed false
section
variable {W : Wd} {P : Params}
theorem D_text_of2 (hW : W.K = KK P) : DefIs W 88 "text_of" (fBody (St 7)) (fScope (St 7)) ["octets"] (.ref 87) where
  def_ := ⟨"text_of", fParams (St 7), .none, .str "gitcore.base" 187, ⟨.type "function", none, #[], by rw [hW]; kernel_rfl⟩, fun s vs _ h => by
    obtain ⟨a, rfl⟩ := args1 h
    exact .of_eq (by kernel_rfl)⟩
  code := by rw [hW]; kernel_rfl
  cell := by decide +kernel
  loc := by decide +kernel
  co := by kernel_rfl
  gen := by kernel_rfl
  kind := by kernel_rfl
theorem K_text_of2 (hW : W.K = KK P) : Keeps' W (.ref 88) := keeps_of hW (by kernel_rfl)
theorem N_text_of (hW : W.K = KK P) : NameIs W "text_of" (.ref 88) := nm_fn hW (by kernel_rfl)
theorem D_octets_of (hW : W.K = KK P) : DefIs W 93 "octets_of" (fBody (St 8)) (fScope (St 8)) ["text"] (.ref 92) where
  def_ := ⟨"octets_of", fParams (St 8), .none, .str "gitcore.base" 187, ⟨.type "function", none, #[], by rw [hW]; kernel_rfl⟩, fun s vs _ h => by
    obtain ⟨a, rfl⟩ := args1 h
    exact .of_eq (by kernel_rfl)⟩
  code := by rw [hW]; kernel_rfl
  cell := by decide +kernel
  loc := by decide +kernel
  co := by kernel_rfl
  gen := by kernel_rfl
  kind := by kernel_rfl
theorem K_octets_of (hW : W.K = KK P) : Keeps' W (.ref 93) := keeps_of hW (by kernel_rfl)
theorem N_octets_of (hW : W.K = KK P) : NameIs W "octets_of" (.ref 93) := nm_fn hW (by kernel_rfl)
theorem D_big_endian (hW : W.K = KK P) : DefC W 98 "big_endian" (fBody (St 9)) (fScope (St 9)) ["number", "many"] (.ref 97) where
  def_ := ⟨"big_endian", fParams (St 9), .none, .str "gitcore.base" 187, ⟨.type "function", none, #[], by rw [hW]; kernel_rfl⟩, fun s vs _ h => by
    obtain ⟨a, b, rfl⟩ := args2 h
    exact .of_eq (by kernel_rfl)⟩
  code := by rw [hW]; kernel_rfl
  kinds := by
    intro x hx
    rcases List.mem_cons.mp hx with rfl | hx
    · exact .inr ⟨by kernel_rfl, fun n => by kernel_rfl⟩
    rcases List.mem_cons.mp hx with rfl | hx
    · exact .inr ⟨by kernel_rfl, fun n => by kernel_rfl⟩
    cases hx
  co := by kernel_rfl
  gen := by kernel_rfl
  kind := by kernel_rfl
theorem K_big_endian (hW : W.K = KK P) : Keeps' W (.ref 98) := keeps_of hW (by kernel_rfl)
theorem N_big_endian (hW : W.K = KK P) : NameIs W "big_endian" (.ref 98) := nm_fn hW (by kernel_rfl)
theorem D_be32 (hW : W.K = KK P) : DefIs W 105 "be32" (fBody (St 10)) (fScope (St 10)) ["number"] (.ref 104) where
  def_ := ⟨"be32", fParams (St 10), .none, .str "gitcore.base" 187, ⟨.type "function", none, #[], by rw [hW]; kernel_rfl⟩, fun s vs _ h => by
    obtain ⟨a, rfl⟩ := args1 h
    exact .of_eq (by kernel_rfl)⟩
  code := by rw [hW]; kernel_rfl
  cell := by decide +kernel
  loc := by decide +kernel
  co := by kernel_rfl
  gen := by kernel_rfl
  kind := by kernel_rfl
theorem K_be32 (hW : W.K = KK P) : Keeps' W (.ref 105) := keeps_of hW (by kernel_rfl)
theorem N_be32 (hW : W.K = KK P) : NameIs W "be32" (.ref 105) := nm_fn hW (by kernel_rfl)
theorem D_at_big_endian (hW : W.K = KK P) : DefIs W 112 "at_big_endian" (fBody (St 11)) (fScope (St 11)) ["octets", "at", "many"] (.ref 111) where
  def_ := ⟨"at_big_endian", fParams (St 11), .none, .str "gitcore.base" 187, ⟨.type "function", none, #[], by rw [hW]; kernel_rfl⟩, fun s vs _ h => by
    obtain ⟨a, b, c, rfl⟩ := args3 h
    exact .of_eq (by kernel_rfl)⟩
  code := by rw [hW]; kernel_rfl
  cell := by decide +kernel
  loc := by decide +kernel
  co := by kernel_rfl
  gen := by kernel_rfl
  kind := by kernel_rfl
theorem K_at_big_endian (hW : W.K = KK P) : Keeps' W (.ref 112) := keeps_of hW (by kernel_rfl)
theorem N_at_big_endian (hW : W.K = KK P) : NameIs W "at_big_endian" (.ref 112) := nm_fn hW (by kernel_rfl)
theorem D_at_be32 (hW : W.K = KK P) : DefIs W 119 "at_be32" (fBody (St 12)) (fScope (St 12)) ["octets", "at"] (.ref 118) where
  def_ := ⟨"at_be32", fParams (St 12), .none, .str "gitcore.base" 187, ⟨.type "function", none, #[], by rw [hW]; kernel_rfl⟩, fun s vs _ h => by
    obtain ⟨a, b, rfl⟩ := args2 h
    exact .of_eq (by kernel_rfl)⟩
  code := by rw [hW]; kernel_rfl
  cell := by decide +kernel
  loc := by decide +kernel
  co := by kernel_rfl
  gen := by kernel_rfl
  kind := by kernel_rfl
theorem K_at_be32 (hW : W.K = KK P) : Keeps' W (.ref 119) := keeps_of hW (by kernel_rfl)
theorem N_at_be32 (hW : W.K = KK P) : NameIs W "at_be32" (.ref 119) := nm_fn hW (by kernel_rfl)
theorem D_put_size (hW : W.K = KK P) : DefIs W 126 "put_size" (fBody (St 13)) (fScope (St 13)) ["number"] (.ref 125) where
  def_ := ⟨"put_size", fParams (St 13), .none, .str "gitcore.base" 187, ⟨.type "function", none, #[], by rw [hW]; kernel_rfl⟩, fun s vs _ h => by
    obtain ⟨a, rfl⟩ := args1 h
    exact .of_eq (by kernel_rfl)⟩
  code := by rw [hW]; kernel_rfl
  cell := by decide +kernel
  loc := by decide +kernel
  co := by kernel_rfl
  gen := by kernel_rfl
  kind := by kernel_rfl
theorem K_put_size (hW : W.K = KK P) : Keeps' W (.ref 126) := keeps_of hW (by kernel_rfl)
theorem N_put_size (hW : W.K = KK P) : NameIs W "put_size" (.ref 126) := nm_fn hW (by kernel_rfl)
theorem D_at_size (hW : W.K = KK P) : DefIs W 133 "at_size" (fBody (St 14)) (fScope (St 14)) ["octets", "at"] (.ref 132) where
  def_ := ⟨"at_size", fParams (St 14), .none, .str "gitcore.base" 187, ⟨.type "function", none, #[], by rw [hW]; kernel_rfl⟩, fun s vs _ h => by
    obtain ⟨a, b, rfl⟩ := args2 h
    exact .of_eq (by kernel_rfl)⟩
  code := by rw [hW]; kernel_rfl
  cell := by decide +kernel
  loc := by decide +kernel
  co := by kernel_rfl
  gen := by kernel_rfl
  kind := by kernel_rfl
theorem K_at_size (hW : W.K = KK P) : Keeps' W (.ref 133) := keeps_of hW (by kernel_rfl)
theorem N_at_size (hW : W.K = KK P) : NameIs W "at_size" (.ref 133) := nm_fn hW (by kernel_rfl)
theorem D_number_by (hW : W.K = KK P) : DefIs W 140 "number_by" (fBody (St 15)) (fScope (St 15)) ["octets", "base"] (.ref 139) where
  def_ := ⟨"number_by", fParams (St 15), .none, .str "gitcore.base" 187, ⟨.type "function", none, #[], by rw [hW]; kernel_rfl⟩, fun s vs _ h => by
    obtain ⟨a, b, rfl⟩ := args2 h
    exact .of_eq (by kernel_rfl)⟩
  code := by rw [hW]; kernel_rfl
  cell := by decide +kernel
  loc := by decide +kernel
  co := by kernel_rfl
  gen := by kernel_rfl
  kind := by kernel_rfl
theorem K_number_by (hW : W.K = KK P) : Keeps' W (.ref 140) := keeps_of hW (by kernel_rfl)
theorem N_number_by (hW : W.K = KK P) : NameIs W "number_by" (.ref 140) := nm_fn hW (by kernel_rfl)
theorem D_number_of (hW : W.K = KK P) : DefIs W 147 "number_of" (fBody (St 16)) (fScope (St 16)) ["octets"] (.ref 146) where
  def_ := ⟨"number_of", fParams (St 16), .none, .str "gitcore.base" 187, ⟨.type "function", none, #[], by rw [hW]; kernel_rfl⟩, fun s vs _ h => by
    obtain ⟨a, rfl⟩ := args1 h
    exact .of_eq (by kernel_rfl)⟩
  code := by rw [hW]; kernel_rfl
  cell := by decide +kernel
  loc := by decide +kernel
  co := by kernel_rfl
  gen := by kernel_rfl
  kind := by kernel_rfl
theorem K_number_of (hW : W.K = KK P) : Keeps' W (.ref 147) := keeps_of hW (by kernel_rfl)
theorem N_number_of (hW : W.K = KK P) : NameIs W "number_of" (.ref 147) := nm_fn hW (by kernel_rfl)
theorem D_decimal (hW : W.K = KK P) : DefIs W 154 "decimal" (fBody (St 21)) (fScope (St 21)) ["number"] (.ref 153) where
  def_ := ⟨"decimal", fParams (St 21), .none, .str "gitcore.patchtexts" 368, ⟨.type "function", none, #[], by rw [hW]; kernel_rfl⟩, fun s vs _ h => by
    obtain ⟨a, rfl⟩ := args1 h
    exact .of_eq (by kernel_rfl)⟩
  code := by rw [hW]; kernel_rfl
  cell := by decide +kernel
  loc := by decide +kernel
  co := by kernel_rfl
  gen := by kernel_rfl
  kind := by kernel_rfl
theorem K_decimal (hW : W.K = KK P) : Keeps' W (.ref 154) := keeps_of hW (by kernel_rfl)
theorem N_decimal (hW : W.K = KK P) : NameIs W "decimal" (.ref 154) := nm_fn hW (by kernel_rfl)
theorem D_row_85 (hW : W.K = KK P) : DefIs W 161 "row_85" (fBody (St 22)) (fScope (St 22)) ["octets"] (.ref 160) where
  def_ := ⟨"row_85", fParams (St 22), .none, .str "gitcore.patchtexts" 368, ⟨.type "function", none, #[], by rw [hW]; kernel_rfl⟩, fun s vs _ h => by
    obtain ⟨a, rfl⟩ := args1 h
    exact .of_eq (by kernel_rfl)⟩
  code := by rw [hW]; kernel_rfl
  cell := by decide +kernel
  loc := by decide +kernel
  co := by kernel_rfl
  gen := by kernel_rfl
  kind := by kernel_rfl
theorem K_row_85 (hW : W.K = KK P) : Keeps' W (.ref 161) := keeps_of hW (by kernel_rfl)
theorem N_row_85 (hW : W.K = KK P) : NameIs W "row_85" (.ref 161) := nm_fn hW (by kernel_rfl)
theorem D_octets_of_row_85 (hW : W.K = KK P) : DefIs W 168 "octets_of_row_85" (fBody (St 23)) (fScope (St 23)) ["row"] (.ref 167) where
  def_ := ⟨"octets_of_row_85", fParams (St 23), .none, .str "gitcore.patchtexts" 368, ⟨.type "function", none, #[], by rw [hW]; kernel_rfl⟩, fun s vs _ h => by
    obtain ⟨a, rfl⟩ := args1 h
    exact .of_eq (by kernel_rfl)⟩
  code := by rw [hW]; kernel_rfl
  cell := by decide +kernel
  loc := by decide +kernel
  co := by kernel_rfl
  gen := by kernel_rfl
  kind := by kernel_rfl
theorem K_octets_of_row_85 (hW : W.K = KK P) : Keeps' W (.ref 168) := keeps_of hW (by kernel_rfl)
theorem N_octets_of_row_85 (hW : W.K = KK P) : NameIs W "octets_of_row_85" (.ref 168) := nm_fn hW (by kernel_rfl)
theorem D_write_binary (hW : W.K = KK P) : DefC W 173 "write_binary" (fBody (St 24)) (fScope (St 24)) ["told", "codec"] (.ref 172) where
  def_ := ⟨"write_binary", fParams (St 24), .none, .str "gitcore.patchtexts" 368, ⟨.type "function", none, #[], by rw [hW]; kernel_rfl⟩, fun s vs _ h => by
    obtain ⟨a, b, rfl⟩ := args2 h
    exact .of_eq (by kernel_rfl)⟩
  code := by rw [hW]; kernel_rfl
  kinds := by
    intro x hx
    rcases List.mem_cons.mp hx with rfl | hx
    · exact .inl (by kernel_rfl)
    rcases List.mem_cons.mp hx with rfl | hx
    · exact .inl (by kernel_rfl)
    cases hx
  co := by kernel_rfl
  gen := by kernel_rfl
  kind := by kernel_rfl
theorem K_write_binary (hW : W.K = KK P) : Keeps' W (.ref 173) := keeps_of hW (by kernel_rfl)
theorem N_write_binary (hW : W.K = KK P) : NameIs W "write_binary" (.ref 173) := nm_fn hW (by kernel_rfl)
theorem D_read_binary (hW : W.K = KK P) : DefIs W 180 "read_binary" (fBody (St 25)) (fScope (St 25)) ["rows", "at", "codec"] (.ref 179) where
  def_ := ⟨"read_binary", fParams (St 25), .none, .str "gitcore.patchtexts" 368, ⟨.type "function", none, #[], by rw [hW]; kernel_rfl⟩, fun s vs _ h => by
    obtain ⟨a, b, c, rfl⟩ := args3 h
    exact .of_eq (by kernel_rfl)⟩
  code := by rw [hW]; kernel_rfl
  cell := by decide +kernel
  loc := by decide +kernel
  co := by kernel_rfl
  gen := by kernel_rfl
  kind := by kernel_rfl
theorem K_read_binary (hW : W.K = KK P) : Keeps' W (.ref 180) := keeps_of hW (by kernel_rfl)
theorem N_read_binary (hW : W.K = KK P) : NameIs W "read_binary" (.ref 180) := nm_fn hW (by kernel_rfl)
theorem D_patch_row (hW : W.K = KK P) : DefIs W 187 "patch_row" (fBody (St 26)) (fScope (St 26)) ["row"] (.ref 186) where
  def_ := ⟨"patch_row", fParams (St 26), .none, .str "gitcore.patchtexts" 368, ⟨.type "function", none, #[], by rw [hW]; kernel_rfl⟩, fun s vs _ h => by
    obtain ⟨a, rfl⟩ := args1 h
    exact .of_eq (by kernel_rfl)⟩
  code := by rw [hW]; kernel_rfl
  cell := by decide +kernel
  loc := by decide +kernel
  co := by kernel_rfl
  gen := by kernel_rfl
  kind := by kernel_rfl
theorem K_patch_row (hW : W.K = KK P) : Keeps' W (.ref 187) := keeps_of hW (by kernel_rfl)
theorem N_patch_row (hW : W.K = KK P) : NameIs W "patch_row" (.ref 187) := nm_fn hW (by kernel_rfl)
theorem D_told_number (hW : W.K = KK P) : DefIs W 194 "told_number" (fBody (St 27)) (fScope (St 27)) ["octets", "words"] (.ref 193) where
  def_ := ⟨"told_number", fParams (St 27), .none, .str "gitcore.patchtexts" 368, ⟨.type "function", none, #[], by rw [hW]; kernel_rfl⟩, fun s vs _ h => by
    obtain ⟨a, b, rfl⟩ := args2 h
    exact .of_eq (by kernel_rfl)⟩
  code := by rw [hW]; kernel_rfl
  cell := by decide +kernel
  loc := by decide +kernel
  co := by kernel_rfl
  gen := by kernel_rfl
  kind := by kernel_rfl
theorem K_told_number (hW : W.K = KK P) : Keeps' W (.ref 194) := keeps_of hW (by kernel_rfl)
theorem N_told_number (hW : W.K = KK P) : NameIs W "told_number" (.ref 194) := nm_fn hW (by kernel_rfl)
theorem D_pack (hW : W.K = KK P) : DefIs W 208 "StoredCodec.pack" (fBody (cm 29 0)) (fScope (cm 29 0)) ["self", "octets"] (.ref 207) where
  def_ := ⟨"pack", fParams (cm 29 0), .none, .str "gitcore.deflate" 443, ⟨.type "function", none, #[], by rw [hW]; kernel_rfl⟩, fun s vs _ h => by
    obtain ⟨a, b, rfl⟩ := args2 h
    exact .of_eq (by kernel_rfl)⟩
  code := by rw [hW]; kernel_rfl
  cell := by decide +kernel
  loc := by decide +kernel
  co := by kernel_rfl
  gen := by kernel_rfl
  kind := by kernel_rfl
theorem K_pack (hW : W.K = KK P) : Keeps' W (.ref 208) := keeps_of hW (by kernel_rfl)
theorem D_unpack (hW : W.K = KK P) : DefIs W 216 "StoredCodec.unpack" (fBody (cm 29 1)) (fScope (cm 29 1)) ["self", "octets", "at"] (.ref 215) where
  def_ := ⟨"unpack", fParams (cm 29 1), .ref 209, .str "gitcore.deflate" 443, ⟨.type "function", none, #[], by rw [hW]; kernel_rfl⟩, fun s vs hX h => by
    obtain ⟨a, b, c, rfl⟩ := args3 h
    exact .of_defaults (T := 209) (o := ⟨Value.type "tuple", none, Data.seq #[Value.int 0 465], #[]⟩) rfl (hX _ _ (by rw [hW]; kernel_rfl)) rfl rfl rfl⟩
  code := by rw [hW]; kernel_rfl
  cell := by decide +kernel
  loc := by decide +kernel
  co := by kernel_rfl
  gen := by kernel_rfl
  kind := by kernel_rfl
theorem K_unpack (hW : W.K = KK P) : Keeps' W (.ref 216) := keeps_of hW (by kernel_rfl)
theorem D_l_octets (hW : W.K = KK P) : DefIs W 228 "_law_octets" (fBody (St 33)) (fScope (St 33)) ["word"] (.ref 227) where
  def_ := ⟨"_law_octets", fParams (St 33), .none, .str "law_nt0274_01" 485, ⟨.type "function", none, #[], by rw [hW]; kernel_rfl⟩, fun s vs _ h => by
    obtain ⟨a, rfl⟩ := args1 h
    exact .of_eq (by kernel_rfl)⟩
  code := by rw [hW]; kernel_rfl
  cell := by decide +kernel
  loc := by decide +kernel
  co := by kernel_rfl
  gen := by kernel_rfl
  kind := by kernel_rfl
theorem K_l_octets (hW : W.K = KK P) : Keeps' W (.ref 228) := keeps_of hW (by kernel_rfl)
theorem N_l_octets (hW : W.K = KK P) : NameIs W "_law_octets" (.ref 228) := nm_fn hW (by kernel_rfl)
theorem D_l_five (hW : W.K = KK P) : DefIs W 235 "_law_five" (fBody (St 34)) (fScope (St 34)) ["part"] (.ref 234) where
  def_ := ⟨"_law_five", fParams (St 34), .none, .str "law_nt0274_01" 485, ⟨.type "function", none, #[], by rw [hW]; kernel_rfl⟩, fun s vs _ h => by
    obtain ⟨a, rfl⟩ := args1 h
    exact .of_eq (by kernel_rfl)⟩
  code := by rw [hW]; kernel_rfl
  cell := by decide +kernel
  loc := by decide +kernel
  co := by kernel_rfl
  gen := by kernel_rfl
  kind := by kernel_rfl
theorem K_l_five (hW : W.K = KK P) : Keeps' W (.ref 235) := keeps_of hW (by kernel_rfl)
theorem N_l_five (hW : W.K = KK P) : NameIs W "_law_five" (.ref 235) := nm_fn hW (by kernel_rfl)
theorem D_l_written (hW : W.K = KK P) : DefIs W 242 "_law_written" (fBody (St 35)) (fScope (St 35)) ["word", "octets"] (.ref 241) where
  def_ := ⟨"_law_written", fParams (St 35), .none, .str "law_nt0274_01" 485, ⟨.type "function", none, #[], by rw [hW]; kernel_rfl⟩, fun s vs _ h => by
    obtain ⟨a, b, rfl⟩ := args2 h
    exact .of_eq (by kernel_rfl)⟩
  code := by rw [hW]; kernel_rfl
  cell := by decide +kernel
  loc := by decide +kernel
  co := by kernel_rfl
  gen := by kernel_rfl
  kind := by kernel_rfl
theorem K_l_written (hW : W.K = KK P) : Keeps' W (.ref 242) := keeps_of hW (by kernel_rfl)
theorem N_l_written (hW : W.K = KK P) : NameIs W "_law_written" (.ref 242) := nm_fn hW (by kernel_rfl)
theorem D_l_bare (hW : W.K = KK P) : DefIs W 249 "_law_bare" (fBody (St 36)) (fScope (St 36)) ["row"] (.ref 248) where
  def_ := ⟨"_law_bare", fParams (St 36), .none, .str "law_nt0274_01" 485, ⟨.type "function", none, #[], by rw [hW]; kernel_rfl⟩, fun s vs _ h => by
    obtain ⟨a, rfl⟩ := args1 h
    exact .of_eq (by kernel_rfl)⟩
  code := by rw [hW]; kernel_rfl
  cell := by decide +kernel
  loc := by decide +kernel
  co := by kernel_rfl
  gen := by kernel_rfl
  kind := by kernel_rfl
theorem K_l_bare (hW : W.K = KK P) : Keeps' W (.ref 249) := keeps_of hW (by kernel_rfl)
theorem N_l_bare (hW : W.K = KK P) : NameIs W "_law_bare" (.ref 249) := nm_fn hW (by kernel_rfl)
theorem D_l_number (hW : W.K = KK P) : DefIs W 254 "_law_number" (fBody (St 37)) (fScope (St 37)) ["octets"] (.ref 253) where
  def_ := ⟨"_law_number", fParams (St 37), .none, .str "law_nt0274_01" 485, ⟨.type "function", none, #[], by rw [hW]; kernel_rfl⟩, fun s vs _ h => by
    obtain ⟨a, rfl⟩ := args1 h
    exact .of_eq (by kernel_rfl)⟩
  code := by rw [hW]; kernel_rfl
  cell := by decide +kernel
  loc := by decide +kernel
  co := by kernel_rfl
  gen := by kernel_rfl
  kind := by kernel_rfl
theorem K_l_number (hW : W.K = KK P) : Keeps' W (.ref 254) := keeps_of hW (by kernel_rfl)
theorem N_l_number (hW : W.K = KK P) : NameIs W "_law_number" (.ref 254) := nm_fn hW (by kernel_rfl)
theorem D_l_part (hW : W.K = KK P) : DefIs W 261 "_law_part" (fBody (St 38)) (fScope (St 38)) ["bare"] (.ref 260) where
  def_ := ⟨"_law_part", fParams (St 38), .none, .str "law_nt0274_01" 485, ⟨.type "function", none, #[], by rw [hW]; kernel_rfl⟩, fun s vs _ h => by
    obtain ⟨a, rfl⟩ := args1 h
    exact .of_eq (by kernel_rfl)⟩
  code := by rw [hW]; kernel_rfl
  cell := by decide +kernel
  loc := by decide +kernel
  co := by kernel_rfl
  gen := by kernel_rfl
  kind := by kernel_rfl
theorem K_l_part (hW : W.K = KK P) : Keeps' W (.ref 261) := keeps_of hW (by kernel_rfl)
theorem N_l_part (hW : W.K = KK P) : NameIs W "_law_part" (.ref 261) := nm_fn hW (by kernel_rfl)
theorem D_l_unpacked (hW : W.K = KK P) : DefIs W 268 "_law_unpacked" (fBody (St 39)) (fScope (St 39)) ["packed"] (.ref 267) where
  def_ := ⟨"_law_unpacked", fParams (St 39), .none, .str "law_nt0274_01" 485, ⟨.type "function", none, #[], by rw [hW]; kernel_rfl⟩, fun s vs _ h => by
    obtain ⟨a, rfl⟩ := args1 h
    exact .of_eq (by kernel_rfl)⟩
  code := by rw [hW]; kernel_rfl
  cell := by decide +kernel
  loc := by decide +kernel
  co := by kernel_rfl
  gen := by kernel_rfl
  kind := by kernel_rfl
theorem K_l_unpacked (hW : W.K = KK P) : Keeps' W (.ref 268) := keeps_of hW (by kernel_rfl)
theorem N_l_unpacked (hW : W.K = KK P) : NameIs W "_law_unpacked" (.ref 268) := nm_fn hW (by kernel_rfl)
theorem D_l_due (hW : W.K = KK P) : DefIs W 273 "_law_due" (fBody (St 40)) (fScope (St 40)) ["rows", "at"] (.ref 272) where
  def_ := ⟨"_law_due", fParams (St 40), .none, .str "law_nt0274_01" 485, ⟨.type "function", none, #[], by rw [hW]; kernel_rfl⟩, fun s vs _ h => by
    obtain ⟨a, b, rfl⟩ := args2 h
    exact .of_eq (by kernel_rfl)⟩
  code := by rw [hW]; kernel_rfl
  cell := by decide +kernel
  loc := by decide +kernel
  co := by kernel_rfl
  gen := by kernel_rfl
  kind := by kernel_rfl
theorem K_l_due (hW : W.K = KK P) : Keeps' W (.ref 273) := keeps_of hW (by kernel_rfl)
theorem N_l_due (hW : W.K = KK P) : NameIs W "_law_due" (.ref 273) := nm_fn hW (by kernel_rfl)
theorem D_l_told (hW : W.K = KK P) : DefIs W 280 "_law_told" (fBody (St 41)) (fScope (St 41)) ["rows", "at", "codec"] (.ref 279) where
  def_ := ⟨"_law_told", fParams (St 41), .none, .str "law_nt0274_01" 485, ⟨.type "function", none, #[], by rw [hW]; kernel_rfl⟩, fun s vs _ h => by
    obtain ⟨a, b, c, rfl⟩ := args3 h
    exact .of_eq (by kernel_rfl)⟩
  code := by rw [hW]; kernel_rfl
  cell := by decide +kernel
  loc := by decide +kernel
  co := by kernel_rfl
  gen := by kernel_rfl
  kind := by kernel_rfl
theorem K_l_told (hW : W.K = KK P) : Keeps' W (.ref 280) := keeps_of hW (by kernel_rfl)
theorem N_l_told (hW : W.K = KK P) : NameIs W "_law_told" (.ref 280) := nm_fn hW (by kernel_rfl)
theorem D_l_bent (hW : W.K = KK P) : DefIs W 287 "_law_bent" (fBody (St 42)) (fScope (St 42)) ["rows", "at", "seed"] (.ref 286) where
  def_ := ⟨"_law_bent", fParams (St 42), .none, .str "law_nt0274_01" 485, ⟨.type "function", none, #[], by rw [hW]; kernel_rfl⟩, fun s vs _ h => by
    obtain ⟨a, b, c, rfl⟩ := args3 h
    exact .of_eq (by kernel_rfl)⟩
  code := by rw [hW]; kernel_rfl
  cell := by decide +kernel
  loc := by decide +kernel
  co := by kernel_rfl
  gen := by kernel_rfl
  kind := by kernel_rfl
theorem K_l_bent (hW : W.K = KK P) : Keeps' W (.ref 287) := keeps_of hW (by kernel_rfl)
theorem N_l_bent (hW : W.K = KK P) : NameIs W "_law_bent" (.ref 287) := nm_fn hW (by kernel_rfl)
end
end Nt

set_option Elab.async false
set_option maxRecDepth 100000
set_option linter.all false
open PySem PySem.W PyProof.Rows PySem.Calls
namespace Nt
set_option genInjectivity false
set_option genSizeOf false
theorem without_mem {x y : Str} (h : y ≠ x) : ∀ {l : List Str}, y ∈ l → y ∈ without x l
  | z :: r, m => by
    unfold without
    by_cases hz : z = x
    · subst hz
      rw [beq_self_eq_true]
      rcases List.mem_cons.mp m with e | e
      · exact absurd e h
      · exact without_mem h e
    · rw [beq_eq_false_iff_ne.mpr hz]
      rcases List.mem_cons.mp m with e | e
      · rw [e]; exact .head _
      · exact .tail _ (without_mem h e)
theorem Cond.and_mk : ∀ {c d : Cond}, c.holds → d.holds → (Cond.and c d).holds
  | Option.none, _, _, h => h
  | Option.some _, Option.none, h, _ => h
  | Option.some _, Option.some _, h, k => ⟨h, k⟩
theorem Cond.imp_mk {b : Prop} : ∀ {c : Cond}, (b → c.holds) → (Cond.imp b c).holds
  | Option.none, _ => trivial
  | Option.some _, h => h
section
variable {X : Exc} {W : Wd} {lv : Nat} {scope : Scope} {cel loc loc' : Loc} {own own' : List Str} {rest : List Stmt} {K : Out → Prop} {T : Tb} {n : Nat} {x : Str} {xp pos lp : Pos} {e : Expr} {p : PV} {c c₂ : Cond}
theorem G.let1 (hT : TbOk W lv T) (e1 : (ev T n).1 ⟨scope.names, cel⟩ loc e = some (p, c)) (hc : c.holds) (hx : (isLoc scope x && !isComp e) = true) (hp : (p.plain || !isNil loc) = true) (next : Runs X W lv scope cel (put x p loc) (without x own) rest K) :
    Runs X W lv scope cel loc own (.Assign [.Name x xp] e pos :: rest) K := by
  refine Runs.step (r := (put x p loc, without x own)) (assign1_ok hT (n := n) _ (c.and none) ?_ (by cases c <;> exact hc)) next
  rw [hx, e1]
  unfold onlyIf seq
  dsimp only
  rw [hp]
theorem G.letL {es : List Expr} {ps : List PV} (hT : TbOk W lv T) (e1 : evs (ev T n).1 ⟨scope.names, cel⟩ loc es = some (ps, c)) (hc : c.holds) (e2 : listPV ps = some (p, c₂)) (hc₂ : c₂.holds) (hx : isLoc scope x = true) (next : Runs X W lv scope cel (put x p loc) (x :: without x own) rest K) :
    Runs X W lv scope cel loc own (.Assign [.Name x xp] (.List es lp) pos :: rest) K := by
  refine Runs.step (r := (put x p loc, x :: without x own)) (assignL_ok hT (n := n) _ (c.and (c₂.and none)) ?_ (by cases c <;> cases c₂ <;> first | exact ⟨hc, hc₂⟩ | exact hc | exact hc₂)) next
  rw [hx, e1]
  unfold onlyIf seq
  dsimp only
  rw [e2]
theorem G.letC {cp : Pos} {elt ta it : Expr} {ifs : List Expr} {k : Int} {sc2 : Scope} (hT : TbOk W lv T) (e1 : evComp (ev T n).1 (ev T n).2 ⟨scope.names, cel⟩ loc elt sc2 ta it ifs k = some (p, c)) (hc : c.holds) (hx : isLoc scope x = true) (hp : p.plain = true) (next : Runs X W lv scope cel (put x p loc) (without x own) rest K) :
    Runs X W lv scope cel loc own (.Assign [.Name x xp] (.ListComp elt [⟨ta, it, ifs, k⟩] sc2 cp) pos :: rest) K := by
  refine Runs.step (r := (put x p loc, without x own)) (assignC_ok hT (n := n) _ (c.and none) ?_ (by cases c <;> exact hc)) next
  rw [hx, e1]
  unfold onlyIf seq
  dsimp only
  rw [hp]
theorem G.letT {ts : List Expr} {k : Nat} {tp : Pos} {r : Loc × List Str} (hT : TbOk W lv T) (e1 : (ev T n).1 ⟨scope.names, cel⟩ loc e = some (p, c)) (hc : c.holds) (hx : (!isComp e) = true) (e2 : tupSt scope loc own ts e p = some (r, c₂)) (hc₂ : c₂.holds) (next : Runs X W lv scope cel r.1 r.2 rest K) :
    Runs X W lv scope cel loc own (.Assign [.Tuple ts k tp] e pos :: rest) K := by
  refine Runs.step (r := r) (assignT_ok hT (n := n) _ (c.and c₂) ?_ (by cases c <;> cases c₂ <;> first | exact ⟨hc, hc₂⟩ | exact hc | exact hc₂)) next
  rw [hx, e1]
  unfold onlyIf seq
  dsimp only
  rw [e2]
theorem G.to {own' : List Str} (hl : subLoc loc' loc) (h : Runs X W lv scope cel loc' own' rest K) (ho : ∀ x ∈ own', x ∈ own) : Runs X W lv scope cel loc own rest K := h.sub hl ho
theorem Runs.weak {Kb : Out → Prop} {body : List Stmt} (h : Runs X W lv scope cel loc own body Kb) (hk : ∀ r, Kb r → match r with
    | .next l o => ∃ l' o', K (.next l' o') ∧ subLoc l' l ∧ ∀ x ∈ o', x ∈ o
    | r => K r) : Runs X W lv scope cel loc own body K := fun f m s Q E C P =>
  h f m s Q E C ⟨fun l o m' h' tk k x => let ⟨l', o', h1, h2, h3⟩ := hk _ k; P.next l' o' m' h' tk h1 (x.sub h2 h3), fun p v m' h' tk k => P.ret p v m' h' tk (hk _ k), fun C k => P.exc C (hk _ k)⟩
/-- a for by a state -/
theorem G.for_ {σ : Type} {px : Pos} {it : Expr} {body : List Stmt} {qd : List PV × PV} (hT : TbOk W lv T) (L : σ → Loc) (o : List Str) (J : Nat → σ → Prop) (x0 : σ) (e1 : (ev T n).1 ⟨scope.names, cel⟩ loc it = some (p, c)) (hc : c.holds) (e2 : srcPV p = some (qd, c₂)) (hc₂ : c₂.holds)
    (hx : scope.names.lookup x = some .local) (hset : isSet it = false) (hl : own = [] ∨ noListSrc p = true) (h0 : subLoc (L x0) loc) (ho : ∀ x ∈ o, x ∈ own) (hJ : J 0 x0)
    (turn : ∀ i q y, qd.1[i]? = some q → J i y → Runs X W lv scope cel (put x q (L y)) (without x o) body fun r => match r with
        | .next l' o' => ∃ z, J (i + 1) z ∧ subLoc (L z) l' ∧ ∀ x ∈ o, x ∈ o'
        | .ret p => K (.ret p)
        | .exc C => K (.exc C)) (done : ∀ y, J qd.1.length y → Runs X W lv scope cel (L y) o rest K) : Runs X W lv scope cel loc own (.For (.Name x px) it body [] pos :: rest) K := by
  refine Runs.for_ hT e1 hc e2 hc₂ hx hset hl (fun i l o' => (i = 0 ∧ l = loc ∧ o' = own) ∨ ∃ y, J i y ∧ l = L y ∧ o' = o) (.inl ⟨rfl, rfl, rfl⟩) (fun i q l o' hq h => ?_) fun l o' h => ?_
  · have key : ∀ y, J i y → Runs X W lv scope cel (put x q (L y)) (without x o) body fun r => match r with
        | .next l' o' => (i + 1 = 0 ∧ l' = loc ∧ o' = own) ∨ ∃ y, J (i + 1) y ∧ l' = L y ∧ o' = o
        | .ret p => K (.ret p)
        | .exc C => K (.exc C) := fun y h1 => (turn i q y hq h1).weak fun r hr => by
      cases r with
      | next l o => obtain ⟨z, z1, z2, z3⟩ := hr; exact ⟨L z, _, .inr ⟨z, z1, rfl, rfl⟩, z2, z3⟩
      | ret p => exact hr
      | exc C => exact hr
    rcases h with ⟨rfl, rfl, rfl⟩ | ⟨y, h1, rfl, rfl⟩
    · refine (key x0 hJ).sub (fun z w hz => ?_) fun z hz => ?_
      · rw [lookup_put] at hz ⊢
        split
        · rename_i q; rw [if_pos q] at hz; exact hz
        · rename_i q; rw [if_neg q] at hz; exact h0 _ _ hz
      · obtain ⟨a, b⟩ := mem_without hz
        exact without_mem a (ho _ b)
    · exact key y h1
  · rcases h with ⟨e, rfl, rfl⟩ | ⟨y, h1, rfl, rfl⟩
    · exact (done x0 (e ▸ hJ)).sub h0 ho
    · exact done y h1
/-- a while by a state -/
theorem G.while_ {σ : Type} {test : Expr} {body : List Stmt} (hT : TbOk W lv T) (L : σ → Loc) (o : List Str) (J : σ → Prop) (μ : σ → Nat) (x0 : σ) (h0 : subLoc (L x0) loc) (ho : ∀ x ∈ o, x ∈ own) (hJ : J x0)
    (turn : ∀ y, J y → ∃ t c, (ev T n).2 ⟨scope.names, cel⟩ (L y) test = some (t, c) ∧ c.holds ∧
      (t = true → Runs X W lv scope cel (L y) o body fun r => match r with
        | .next l' o' => ∃ z, J z ∧ μ z < μ y ∧ subLoc (L z) l' ∧ ∀ x ∈ o, x ∈ o'
        | .ret p => K (.ret p)
        | .exc C => K (.exc C)) ∧ (t = false → Runs X W lv scope cel (L y) o rest K)) : Runs X W lv scope cel loc own (.While test body [] pos :: rest) K := by
  refine Runs.sub (loc' := L x0) (own' := o) ?_ h0 ho
  refine Runs.while_ (n := n) hT (fun k l o' => ∃ y, J y ∧ k = μ y ∧ l = L y ∧ o' = o) (μ x0) ⟨x0, hJ, rfl, rfl, rfl⟩ fun k l o' ⟨y, h1, h2, h3, h4⟩ => ?_
  subst h2 h3 h4
  obtain ⟨t, c, e, hc, g1, g2⟩ := turn y h1
  refine ⟨t, c, e, hc, fun ht => (g1 ht).weak fun r hr => ?_, g2⟩
  cases r with
  | next l o => obtain ⟨z, z1, z2, z3, z4⟩ := hr; exact ⟨L z, _, ⟨μ z, z2, z, z1, rfl, rfl, rfl⟩, z3, z4⟩
  | ret p => exact hr
  | exc C => exact hr
end
end Nt

set_option Elab.async false
set_option maxRecDepth 100000
set_option linter.all false
open PySem PySem.W PyProof.Rows PySem.Calls
namespace Nt
set_option genInjectivity false
set_option genSizeOf false
set_option compiler.extract_closed false
theorem clip_nat (n i : Nat) : clipAt n (i : Int) = min i n := by
  unfold clipAt
  rw [if_neg (by lia)]; lia
theorem cut_nn {α : Type} (l : List α) (a b : Nat) : cut l (some (a : Int)) (some (b : Int)) = (l.drop a).take (b - a) := by
  unfold cut
  show List.take (clipAt l.length b - clipAt l.length a) (l.drop (clipAt l.length a)) = _
  rw [clip_nat, clip_nat]
  by_cases h : a ≤ l.length
  · rw [Nat.min_eq_left h]
    by_cases h2 : b ≤ l.length
    · rw [Nat.min_eq_left h2]
    · rw [Nat.min_eq_right (by lia), List.take_of_length_le (by rw [List.length_drop]; lia), List.take_of_length_le (by rw [List.length_drop]; lia)]
  · rw [List.drop_eq_nil_of_le (by lia : l.length ≤ a), List.drop_eq_nil_of_le (by lia), List.take_nil, List.take_nil]
theorem cut_n {α : Type} (l : List α) (b : Nat) : cut l none (some (b : Int)) = l.take b := by
  unfold cut
  show List.take (clipAt l.length b - 0) (l.drop 0) = _
  rw [clip_nat, List.drop_zero, Nat.sub_zero]
  by_cases h2 : b ≤ l.length
  · rw [Nat.min_eq_left h2]
  · rw [Nat.min_eq_right (by lia), List.take_of_length_le (Nat.le_refl _), List.take_of_length_le (by lia)]
theorem cut_a {α : Type} (l : List α) (a : Nat) : cut l (some (a : Int)) none = l.drop a := by
  unfold cut
  show List.take (l.length - clipAt l.length a) (l.drop (clipAt l.length a)) = _
  rw [clip_nat]
  by_cases h : a ≤ l.length
  · rw [Nat.min_eq_left h, List.take_of_length_le (by rw [List.length_drop]; lia)]
  · rw [List.drop_eq_nil_of_le (by lia : l.length ≤ a), List.drop_eq_nil_of_le (by lia), List.take_nil]
theorem cut_init {α : Type} (l : List α) : cut l none (some (-1)) = l.dropLast := by
  unfold cut
  show List.take (clipAt l.length (-1) - 0) (l.drop 0) = _
  rw [List.drop_zero, List.dropLast_eq_take]
  congr 1
  unfold clipAt
  rw [if_pos (by lia)]; lia
theorem cut_last {α : Type} (l : List α) : cut l (some (-1)) none = l.drop (l.length - 1) := by
  unfold cut
  show List.take (l.length - clipAt l.length (-1)) (l.drop (clipAt l.length (-1))) = _
  have e : clipAt l.length (-1) = l.length - 1 := by
    unfold clipAt
    rw [if_pos (by lia)]; lia
  rw [e, List.take_of_length_le (by rw [List.length_drop]; lia)]
theorem cut_to_nn {α : Type} (l : List α) {a b : Int} (ha : 0 ≤ a) (hb : 0 ≤ b) : cut l (some a) (some b) = (l.drop a.toNat).take (b.toNat - a.toNat) := by
  have := cut_nn l a.toNat b.toNat
  rwa [Int.toNat_of_nonneg ha, Int.toNat_of_nonneg hb] at this
theorem cut_to_n {α : Type} (l : List α) {b : Int} (hb : 0 ≤ b) : cut l none (some b) = l.take b.toNat := by
  have := cut_n l b.toNat
  rwa [Int.toNat_of_nonneg hb] at this
theorem cut_to_a {α : Type} (l : List α) {a : Int} (ha : 0 ≤ a) : cut l (some a) none = l.drop a.toNat := by
  have := cut_a l a.toNat
  rwa [Int.toNat_of_nonneg ha] at this
theorem band255 {x : Int} (h : 0 ≤ x) : Builtin.bitAnd x 255 = x % 256 := by
  rw [bitAnd_pp h (by decide)]
  have := Nat.and_two_pow_sub_one_eq_mod x.toNat 8
  show ((x.toNat &&& 255 : Nat) : Int) = _
  rw [show (255 : Nat) = 2 ^ 8 - 1 from rfl, this]
  lia
theorem band127 {x : Int} (h : 0 ≤ x) : Builtin.bitAnd x 127 = x % 128 := by
  rw [bitAnd_pp h (by decide)]
  have := Nat.and_two_pow_sub_one_eq_mod x.toNat 7
  show ((x.toNat &&& 127 : Nat) : Int) = _
  rw [show (127 : Nat) = 2 ^ 7 - 1 from rfl, this]
  lia
theorem bor_pp {x y : Int} (hx : 0 ≤ x) (hy : 0 ≤ y) : Builtin.bitOr x y = ((x.toNat ||| y.toNat : Nat) : Int) := by
  unfold Builtin.bitOr
  rw [bitAnd_nn (by unfold Builtin.bitNot; lia) (by unfold Builtin.bitNot; lia)]
  unfold Builtin.bitNot
  have e1 : - (-x - 1) - 1 = x := by lia
  have e2 : - (-y - 1) - 1 = y := by lia
  rw [e1, e2]; lia
theorem bor_shift {n o k : Nat} (h : n < 2 ^ k) : Builtin.bitOr (n : Int) ((o : Int) * 2 ^ k) = (n : Int) + o * 2 ^ k := by
  have e : ((o : Int) * 2 ^ k) = ((o * 2 ^ k : Nat) : Int) := by rw [Int.natCast_mul, Int.natCast_pow]; rfl
  rw [e, bor_pp (by lia) (by lia), Int.toNat_natCast, Int.toNat_natCast, Nat.or_comm, Nat.mul_comm, ← Nat.two_pow_add_eq_or_of_lt h, Nat.add_comm]
  lia
theorem rngL_len {a b c : Int} (hc : 0 < c) : (rngL a b c).length = ((b - a + c - 1) / c).toNat := by
  unfold rngL
  rw [List.length_map, List.length_range]
  unfold Builtin.Range.rangeSize
  rw [if_pos hc]
  split
  · congr 1
    have : b - a + c - 1 = (b - a - 1) + 1 * c := by lia
    rw [this, Int.add_mul_ediv_right _ _ (by lia)]
  · have h : (b - a + c - 1) / c ≤ 0 := by
      have : (b - a + c - 1) / c < 1 := Int.ediv_lt_of_lt_mul hc (by lia)
      lia
    show 0 = _
    lia
theorem small_range {a b c : Int} (hc : 0 < c) (hc' : c < 1000) (h1 : -1099511627776 < a) (h2 : a < 1099511627776) (h3 : -1099511627776 < b) (h4 : b < 1099511627776) : Builtin.Range.small a b c = true := by
  have fit : ∀ i : Int, -9223372036854775808 ≤ i → i < 9223372036854775808 → Builtin.Range.rangeFitsLong i = true := fun i p q => by
    unfold Builtin.Range.rangeFitsLong
    rw [Bool.and_eq_true, decide_eq_true_iff, decide_eq_true_iff]
    exact ⟨p, q⟩
  have hr : 0 ≤ Builtin.Range.rangeSize a b c ∧ Builtin.Range.rangeSize a b c < 9223372036854775808 := by
    unfold Builtin.Range.rangeSize
    rw [if_pos hc]
    split
    · have p1 : 0 ≤ (b - a - 1) / c := Int.ediv_nonneg (by lia) (by lia)
      have p2 : (b - a - 1) / c ≤ b - a - 1 := Int.ediv_le_self _ (by lia)
      lia
    · lia
  unfold Builtin.Range.small
  rw [fit a (by lia) (by lia), fit b (by lia) (by lia), fit c (by lia) (by lia), fit _ (by lia) hr.2, if_pos hc, fit (b + (c - 1)) (by lia) (by lia), Bool.or_true]
  rfl
theorem rngL_get {a b c : Int} {i : Nat} {q : PV} (h : ((rngL a b c).map PV.int)[i]? = some q) : q = .int (a + i * c) ∧ i < (rngL a b c).length := by
  rw [List.getElem?_map] at h
  cases e : (rngL a b c)[i]? with
  | none => rw [e] at h; cases h
  | some x =>
    rw [e] at h
    cases h
    have hi : i < (rngL a b c).length := (List.getElem?_eq_some_iff.mp e).1
    unfold rngL at e
    rw [List.getElem?_map] at e
    cases e2 : (List.range (Builtin.Range.rangeSize a b c).toNat)[i]? with
    | none => rw [e2] at e; cases e
    | some j =>
      rw [e2] at e
      cases e
      have := (List.getElem?_eq_some_iff.mp e2).2
      rw [List.getElem_range] at this
      subst this
      exact ⟨rfl, hi⟩
theorem bytes_it {b : List UInt8} {i : Nat} {q : PV} (h : (b.map bytePV)[i]? = some q) : ∃ r, b.drop i = r ∧ ∃ o t, r = o :: t ∧ q = .int (o.toNat : Int) ∧ b.drop (i + 1) = t := by
  rw [List.getElem?_map] at h
  cases e : b[i]? with
  | none => rw [e] at h; cases h
  | some x =>
    rw [e] at h
    cases h
    obtain ⟨h1, h2⟩ := List.getElem?_eq_some_iff.mp e
    refine ⟨_, rfl, x, b.drop (i + 1), ?_, rfl, rfl⟩
    rw [← h2]; exact List.drop_eq_getElem_cons h1
theorem join_signs (l : List Nat) : Txt.join ⟨#[]⟩ (l.map fun n => (⟨#[n]⟩ : Str)) = ⟨l.toArray⟩ := by
  have h := join_nil_signs ⟨l.toArray⟩
  have h2 := eq_of_beq (join_plain_closes ⟨#[]⟩ (signs ⟨l.toArray⟩))
  rw [h] at h2
  exact h2
theorem toU8 {n : Nat} (h : n < 256) : n.toUInt8.toNat = n := by
  show (UInt8.ofNat n).toNat = n
  rw [UInt8.toNat_ofNat']; lia
theorem ofU8 (o : UInt8) : o.toNat.toUInt8 = o := by
  show UInt8.ofNat o.toNat = o
  simp
theorem ofU8' (o : UInt8) : ((o.toNat : Int)).toNat.toUInt8 = o := ofU8 o
end Nt

set_option Elab.async false
set_option maxRecDepth 100000
set_option linter.all false
open PySem PySem.W PyProof.Rows PySem.Calls
namespace Nt
set_option genInjectivity false
set_option genSizeOf false
set_option compiler.extract_closed false
noncomputable def txt (b : List UInt8) : Str := ⟨(b.map (·.toNat)).toArray⟩
noncomputable def octs (w : Str) : List UInt8 := w.cps.toList.map fun n => n.toUInt8
noncomputable def spText : Spec := tB fun b => tE (some (.str (txt b), some (b.length ≤ 1048576)))
theorem comp_all {r : RecT} {sc : Sc} {x : Str} {qs : List PV} : (qs.filter fun p => bit (turnT r sc x [] p)) = qs := List.filter_eq_self.mpr fun _ _ => rfl
theorem comp_int {rec : Rec} {r : RecT} {sc : Sc} {x : Str} {elt : Expr} {α : Type} {g : α → PV} {F : α → Int} {l : List α} (h : ∀ a ∈ l, asInt (rec sc [(x, g a)] elt) = F a) :
    (((l.map g).filter fun p => bit (turnT r sc x [] p)).map fun p => asInt (rec sc [(x, p)] elt)) = l.map F := by
  rw [comp_all, List.map_map]
  exact List.map_congr_left h
theorem comp_str {rec : Rec} {r : RecT} {sc : Sc} {x : Str} {elt : Expr} {α : Type} {g : α → PV} {F : α → Str} {l : List α} (h : ∀ a ∈ l, asStr (rec sc [(x, g a)] elt) = F a) :
    (((l.map g).filter fun p => bit (turnT r sc x [] p)).map fun p => asStr (rec sc [(x, p)] elt)) = l.map F := by
  rw [comp_all, List.map_map]
  exact List.map_congr_left h
theorem comp_byt {rec : Rec} {r : RecT} {sc : Sc} {x : Str} {elt : Expr} {α : Type} {g : α → PV} {F : α → List UInt8} {l : List α} (h : ∀ a ∈ l, asByt (rec sc [(x, g a)] elt) = F a) :
    (((l.map g).filter fun p => bit (turnT r sc x [] p)).map fun p => asByt (rec sc [(x, p)] elt)) = l.map F := by
  rw [comp_all, List.map_map]
  exact List.map_congr_left h
theorem comp_cond {recT : RecT} {sc : Sc} {x : Str} {α : Type} {g : α → PV} {l : List α} {n : Nat} {mt : PV → Prop} (hl : l.length ≤ n) (h : ∀ a ∈ l, mt (g a)) :
    (l.map g).length ≤ n ∧ ∀ p ∈ l.map g, met (turnT recT sc x [] p) ∧ (bit (turnT recT sc x [] p) = true → mt p) :=
  ⟨by rw [List.length_map]; exact hl, fun p hp => ⟨trivial, fun _ => by obtain ⟨a, ha, rfl⟩ := List.mem_map.mp hp; exact h a ha⟩⟩
theorem one_sum {α : Type} {l : List α} {F : α → Str} (h : ∀ a, (F a).length = 1) : ((l.map F).map (·.length)).sum = l.length := by
  induction l with
  | nil => rfl
  | cons x l ih => simp only [List.map_cons, List.sum_cons, List.length_cons, h] at ih ⊢; lia
noncomputable def be (n : Int) : List UInt8 := [(n / 16777216 % 256).toNat.toUInt8, (n / 65536 % 256).toNat.toUInt8, (n / 256 % 256).toNat.toUInt8, (n % 256).toNat.toUInt8]
/-- the number that some octets tell -/
noncomputable def valAt (n : Int) : List UInt8 → Int
  | [] => n
  | o :: r => valAt (256 * n + (o.toNat : Int)) r
noncomputable def spOcts : Spec := tS fun w => tE (some (.bytes (octs w), some ((∀ n ∈ w.cps.toList, n < 256) ∧ w.cps.size ≤ 1048576)))
noncomputable def spBig : Spec := tI fun n => tI fun m => tE (some (.bytes (be n), some (m = 4 ∧ 0 ≤ n ∧ n < 4294967296)))
noncomputable def spBe32 : Spec := tI fun n => tE (some (.bytes (be n), some (0 ≤ n ∧ n < 4294967296)))
noncomputable def spAtBig : Spec := tB fun b => tI fun a => tI fun m => tE (some (.int (valAt 0 b), some (a = 0 ∧ m = 4 ∧ b.length = 4)))
noncomputable def spAt32 : Spec := tB fun b => tI fun a => tE (some (.int (valAt 0 b), some (a = 0 ∧ b.length = 4)))
noncomputable def spPut : Spec := tI fun n => tE (some (.bytes [n.toNat.toUInt8], some (0 ≤ n ∧ n < 128)))
noncomputable def spDec : Spec := tI fun n => tE (some (.bytes (octs (Str.ofString (toString n))), some (0 ≤ n ∧ n < 64)))
/-- a row without its feed -/
noncomputable def bare (r : List UInt8) : List UInt8 := if r.drop (r.length - 1) = [10] then r.dropLast else r
noncomputable def spBare : Spec := tB fun r => tE (some (.bytes (bare r), some (r.length ≤ 1048576)))
noncomputable def spPack : Spec := tC <| tB fun b => tE (some (.bytes (b.length.toUInt8 :: b), some (b.length < 128)))
section
variable {W : Wd} {lv : Nat} {P : Params}
theorem w_text_of (hW : W.K = KK P) : CallOk W (lv + 1) (.ref 88) spText := by
  refine fn_ok (D_text_of2 hW) (by decide) fun ps r c e hc => ?_
  obtain ⟨b, ps, rfl, e1⟩ := tB_use e
  obtain ⟨rfl, e2⟩ := tE_use e1
  clear e e1
  · cases e2
    have hc : b.length ≤ 1048576 := hc
    refine ⟨rfl, ?_⟩
    refine Runs.ret (n := 9) (T0_ok hW) rfl ?_ ?_
    · refine And.intro (comp_cond (Nat.le_trans hc (by decide)) fun a _ => ?_) ?_
      · refine And.intro ?_ ?_ <;> (have := a.toNat_lt; dsimp only; lia)
      · rw [comp_str (F := fun a : UInt8 => ⟨#[a.toNat]⟩) fun a _ => rfl]
        rw [one_sum (fun _ => rfl)]
        show b.length + _ * 0 ≤ _
        lia
    · refine congrArg Out.ret (congrArg PV.str ?_)
      rw [comp_str (F := fun a : UInt8 => ⟨#[a.toNat]⟩) fun a _ => rfl]
      have := join_signs (b.map (·.toNat))
      rw [List.map_map] at this
      exact this
theorem octs_val {w : Str} : (w.cps.toList.map fun n : Nat => (n : Int)).map (fun n => n.toNat.toUInt8) = octs w := by
  rw [List.map_map]; rfl
theorem octs_ok {w : Str} (h : ∀ n ∈ w.cps.toList, n < 256) : ∀ n ∈ (w.cps.toList.map fun n : Nat => (n : Int)), 0 ≤ n ∧ n < 256 := fun n hn => by
  obtain ⟨m, hm, rfl⟩ := List.mem_map.mp hn
  have := h m hm
  lia
theorem w_l_octets (hW : W.K = KK P) : CallOk W (lv + 1) (.ref 228) spOcts := by
  refine fn_ok (D_l_octets hW) (by decide) fun ps r c e hc => ?_
  obtain ⟨w, ps, rfl, e1⟩ := tS_use e
  obtain ⟨rfl, e2⟩ := tE_use e1
  clear e e1
  · cases e2
    obtain ⟨h1, h2⟩ := (show _ ∧ _ from hc)
    have h2 : w.cps.toList.length ≤ 1048576 := by rw [Array.length_toList]; lia
    refine ⟨rfl, ?_⟩
    refine Runs.ret (n := 9) (T0_ok hW) rfl ?_ ?_
    · refine And.intro (comp_cond (Nat.le_trans h2 (by decide)) fun a _ => rfl) (And.intro ?_ ?_)
      · rw [comp_int (F := fun a : Nat => (a : Int)) fun a _ => rfl]
        exact octs_ok h1
      · rw [comp_int (F := fun a : Nat => (a : Int)) fun a _ => rfl]
        show (w.cps.toList.map _).length ≤ _
        rw [List.length_map]; lia
    · refine congrArg Out.ret (congrArg PV.bytes ?_)
      rw [comp_int (F := fun a : Nat => (a : Int)) fun a _ => rfl]
      exact octs_val
theorem w_octets_of (hW : W.K = KK P) : CallOk W (lv + 1) (.ref 93) spOcts := by
  refine fn_ok (D_octets_of hW) (by decide) fun ps r c e hc => ?_
  obtain ⟨w, ps, rfl, e1⟩ := tS_use e
  obtain ⟨rfl, e2⟩ := tE_use e1
  clear e e1
  · cases e2
    obtain ⟨h1, h2⟩ := (show _ ∧ _ from hc)
    have h2 : w.cps.toList.length ≤ 1048576 := by rw [Array.length_toList]; lia
    refine ⟨rfl, ?_⟩
    refine G.letC (n := 9) (T0_ok hW) rfl (comp_cond (Nat.le_trans h2 (by decide)) fun a _ => rfl) rfl rfl ?_
    rw [comp_int (F := fun a : Nat => (a : Int)) fun a _ => rfl]
    refine G.for_ (n := 9) (σ := Unit) (T0_ok hW) (fun _ => [("numbers", .il (w.cps.toList.map fun n : Nat => (n : Int)))]) [] (fun _ _ => True) () rfl trivial rfl trivial rfl rfl (.inl rfl) (.cons rfl .nil) (fun _ h => nomatch h) trivial (fun i q y hq _ => ?_) fun _ _ => ?_
    · obtain ⟨x, hx, rfl⟩ := List.mem_map.mp (List.mem_of_getElem? hq)
      refine Runs.ite (n := 9) (T0_ok hW) rfl trivial (fun h => ?_) fun _ => ?_
      · have := octs_ok h1 x hx
        exact absurd (of_decide_eq_true h) (by show ¬ 255 < x; lia)
      · exact Runs.nil ⟨(), trivial, .cons rfl .nil, fun _ h => nomatch h⟩
    · refine Runs.ret (n := 9) (T0_ok hW) rfl (And.intro (octs_ok h1) ?_) (congrArg Out.ret (congrArg PV.bytes octs_val))
      show (w.cps.toList.map _).length ≤ _
      rw [List.length_map]; lia
theorem bare_val (b : List UInt8) : (bif (cut b (some (-1)) none == [10]) then cut b none (some (-1)) else b) = bare b := by
  rw [cut_last, cut_init]
  unfold bare
  by_cases h : b.drop (b.length - 1) = [10]
  · rw [if_pos h, h]; rfl
  · rw [if_neg h, beq_eq_false_iff_ne.mpr h]; rfl
theorem w_l_bare (hW : W.K = KK P) : CallOk W (lv + 1) (.ref 249) spBare := by
  refine fn_ok (D_l_bare hW) (by decide) fun ps r c e hc => ?_
  obtain ⟨b, ps, rfl, e1⟩ := tB_use e
  obtain ⟨rfl, e2⟩ := tE_use e1
  clear e e1
  · cases e2
    have hc : b.length ≤ 16777216 := Nat.le_trans hc (by decide)
    refine ⟨rfl, ?_⟩
    refine Runs.ret (n := 9) (T0_ok hW) rfl ?_ (congrArg Out.ret (congrArg PV.bytes (bare_val b)))
    exact And.intro hc fun _ => hc
theorem w_patch_row (hW : W.K = KK P) : CallOk W (lv + 1) (.ref 187) spBare := by
  refine fn_ok (D_patch_row hW) (by decide) fun ps r c e hc => ?_
  obtain ⟨b, ps, rfl, e1⟩ := tB_use e
  obtain ⟨rfl, e2⟩ := tE_use e1
  clear e e1
  · cases e2
    have hc : b.length ≤ 16777216 := Nat.le_trans hc (by decide)
    refine ⟨rfl, ?_⟩
    refine Runs.ret (n := 9) (T0_ok hW) rfl ?_ (congrArg Out.ret (congrArg PV.bytes (bare_val b)))
    exact And.intro hc fun _ => hc
theorem w_put_size (hW : W.K = KK P) : CallOk W (lv + 1) (.ref 126) spPut := by
  refine fn_ok (D_put_size hW) (by decide) fun ps r c e hc => ?_
  obtain ⟨b, ps, rfl, e1⟩ := tI_use e
  obtain ⟨rfl, e2⟩ := tE_use e1
  clear e e1
  · cases e2
    obtain ⟨h1, h2⟩ := (show _ ∧ _ from hc)
    refine ⟨rfl, ?_⟩
    refine G.letL (n := 9) (T0_ok hW) rfl trivial rfl (by show 0 ≤ 16777216; decide) rfl ?_
    refine G.while_ (n := 9) (σ := Unit) (T0_ok hW) (fun _ => [("number", .int b), ("found", .il [])]) ["found"] (fun _ => True) (fun _ => 0) () (.cons rfl (.cons rfl .nil)) (fun _ h => h) trivial fun _ _ => ⟨_, _, rfl, trivial, fun h => ?_, fun _ => ?_⟩
    · exact absurd (of_decide_eq_true h) (by show ¬ 127 < b; lia)
    · refine Runs.step (append_ok (n := 9) (T0_ok hW) rfl rfl rfl rfl (.head _) rfl rfl trivial rfl (by show 0 ≤ 1000000; decide) rfl rfl) ?_
      refine Runs.ret (n := 9) (T0_ok hW) rfl (And.intro (fun n hn => ?_) ?_) rfl
      · cases List.mem_singleton.mp hn
        exact ⟨h1, (show b < 256 by lia)⟩
      · show 1 ≤ 16777216; decide
theorem w_pack (hW : W.K = KK P) : CallOk W (lv + 2) (.ref 208) spPack := by
  refine fn_ok (D_pack hW) (by decide) fun ps r c e hc => ?_
  obtain ⟨ps, rfl, e1⟩ := tC_use e
  obtain ⟨b, ps, rfl, e2⟩ := tB_use e1
  obtain ⟨rfl, e3⟩ := tE_use e2
  clear e e1 e2
  · cases e3
    have hc : b.length < 128 := hc
    refine ⟨rfl, ?_⟩
    have hT := (T0_ok (lv := lv + 1) hW).fn (N_put_size hW) (K_put_size hW) (w_put_size (lv := lv) hW)
    refine Runs.ret (n := 9) hT rfl (And.intro (And.intro ?_ (And.intro ?_ ?_)) ?_) (congrArg Out.ret (congrArg PV.bytes ?_))
    · show b.length ≤ 16777216; lia
    · show (0 : Int) ≤ b.length; lia
    · show (b.length : Int) < 128; lia
    · show 1 + b.length ≤ 16777216; lia
    · rfl
theorem w_at_big (hW : W.K = KK P) : CallOk W (lv + 1) (.ref 112) spAtBig := by
  refine fn_ok (D_at_big_endian hW) (by decide) fun ps r c e hc => ?_
  obtain ⟨b, ps, rfl, e1⟩ := tB_use e
  obtain ⟨a, ps, rfl, e2⟩ := tI_use e1
  obtain ⟨m, ps, rfl, e3⟩ := tI_use e2
  obtain ⟨rfl, e4⟩ := tE_use e3
  clear e e1 e2 e3
  · cases e4
    obtain ⟨rfl, rfl, h1⟩ := (show _ ∧ _ ∧ _ from hc)
    refine ⟨rfl, ?_⟩
    refine Runs.ite (n := 9) (T0_ok hW) rfl ?_ (fun h => ?_) fun _ => ?_
    · intro _; exact (show b.length ≤ 16777216 by lia)
    · exfalso
      revert h
      show ¬ ((decide ((0 : Int) < 0) || (decide ((b.length : Int) < 0 + 4) || false)) = true)
      rw [h1]; decide
    · refine G.let1 (n := 9) (T0_ok hW) rfl trivial rfl rfl ?_
      have hcut : cut b (some 0) (some (0 + 4)) = b := by
        rw [cut_to_nn b (by decide) (by decide)]
        exact List.take_of_length_le (by simp; lia)
      refine G.for_ (n := 9) (σ := Int) (T0_ok hW) (fun n => [("number", .int n)]) [] (fun i n => valAt 0 b = valAt n (b.drop i)) 0 rfl (by show b.length ≤ 16777216; lia) rfl trivial rfl rfl (.inl rfl) (.cons rfl .nil) (fun _ h => nomatch h) rfl (fun i q n hq hJ => ?_) fun n hJ => ?_
      · have hq : (b.map bytePV)[i]? = some q := by rw [← hcut]; exact hq
        obtain ⟨_, rfl, o, t, e1, rfl, e2⟩ := bytes_it hq
        refine G.let1 (n := 9) (T0_ok hW) rfl trivial rfl rfl (Runs.nil ⟨256 * n + (o.toNat : Int), ?_, .cons rfl .nil, fun _ h => nomatch h⟩)
        rw [hJ, e1, e2]; rfl
      · refine Runs.ret (n := 9) (T0_ok hW) rfl trivial (congrArg Out.ret (congrArg PV.int ?_))
        rw [hJ]
        show n = valAt n (b.drop ((cut b (some 0) (some (0 + 4))).map bytePV).length)
        rw [hcut, List.length_map, List.drop_length]; rfl
theorem w_at32 (hW : W.K = KK P) : CallOk W (lv + 2) (.ref 119) spAt32 := by
  refine fn_ok (D_at_be32 hW) (by decide) fun ps r c e hc => ?_
  obtain ⟨b, ps, rfl, e1⟩ := tB_use e
  obtain ⟨a, ps, rfl, e2⟩ := tI_use e1
  obtain ⟨rfl, e3⟩ := tE_use e2
  clear e e1 e2
  · cases e3
    obtain ⟨rfl, h1⟩ := (show _ ∧ _ from hc)
    have hT := (T0_ok (lv := lv + 1) hW).fn (N_at_big_endian hW) (K_at_big_endian hW) (w_at_big (lv := lv) hW)
    exact ⟨rfl, Runs.ret (n := 9) hT rfl ⟨rfl, rfl, h1⟩ rfl⟩
theorem rng4 : rngL 0 4 1 = [0, 1, 2, 3] := by decide +kernel
noncomputable def big (n a : Int) : Int := Builtin.bitAnd (n.fdiv (2 ^ (8 * (4 - 1 - a)).toNat)) 255
theorem big4 {n : Int} (h : 0 ≤ n) : [0, 1, 2, 3].map (big n) = [n / 16777216 % 256, n / 65536 % 256, n / 256 % 256, n % 256] := by
  have k : ∀ m : Int, 0 < m → Builtin.bitAnd (n.fdiv m) 255 = n / m % 256 := fun m hm => by
    rw [Int.fdiv_eq_ediv_of_nonneg _ (by lia), band255 (Int.ediv_nonneg h (by lia))]
  show [Builtin.bitAnd (n.fdiv (2 ^ 24)) 255, Builtin.bitAnd (n.fdiv (2 ^ 16)) 255, Builtin.bitAnd (n.fdiv (2 ^ 8)) 255, Builtin.bitAnd (n.fdiv (2 ^ 0)) 255] = _
  rw [k _ (by decide), k _ (by decide), k _ (by decide), k _ (by decide)]
  congr 4
  rw [show (2 : Int) ^ 0 = 1 from rfl, Int.ediv_one]
theorem w_big (hW : W.K = KK P) : CallOk W (lv + 1) (.ref 98) spBig := by
  refine fnC_ok (D_big_endian hW) (by decide) fun ps r c e hc => ?_
  obtain ⟨n, ps, rfl, e1⟩ := tI_use e
  obtain ⟨m, ps, rfl, e2⟩ := tI_use e1
  obtain ⟨rfl, e3⟩ := tE_use e2
  clear e e1 e2
  · cases e3
    obtain ⟨rfl, h1, h2⟩ := (show _ ∧ _ ∧ _ from hc)
    refine ⟨rfl, [], [("number", .int n), ("many", .int 4)], (fun _ _ h => nomatch h), fun x p h => ?_, ?_⟩
    · rcases List.mem_cons.mp (lookup_mem h) with h | h
      · cases h; exact ⟨by kernel_rfl, rfl⟩
      rcases List.mem_cons.mp h with h | h
      · cases h; exact ⟨by kernel_rfl, rfl⟩
      cases h
    refine Runs.ret (n := 12) (T0_ok hW) rfl ?_ ?_
    · refine And.intro (And.intro (by decide +kernel) (comp_cond (by show (rngL 0 4 1).length ≤ _; rw [rng4]; decide) fun a ha => ?_)) ?_
      · have ha : a ∈ rngL 0 4 1 := ha
        rw [rng4] at ha
        show 0 ≤ 8 * (4 - 1 - a)
        simp only [List.mem_cons, List.not_mem_nil, or_false] at ha
        lia
      · rw [comp_int (F := big n) fun a _ => rfl]
        show (∀ k ∈ (rngL 0 4 1).map (big n), _) ∧ ((rngL 0 4 1).map (big n)).length ≤ _
        rw [rng4, big4 h1]
        refine ⟨fun k hk => ?_, by show 4 ≤ _; decide⟩
        simp only [List.mem_cons, List.not_mem_nil, or_false] at hk
        lia
    · refine congrArg Out.ret (congrArg PV.bytes ?_)
      rw [comp_int (F := big n) fun a _ => rfl]
      show ((rngL 0 4 1).map (big n)).map _ = _
      rw [rng4, big4 h1]
      rfl
theorem w_be32 (hW : W.K = KK P) : CallOk W (lv + 2) (.ref 105) spBe32 := by
  refine fn_ok (D_be32 hW) (by decide) fun ps r c e hc => ?_
  obtain ⟨b, ps, rfl, e1⟩ := tI_use e
  obtain ⟨rfl, e2⟩ := tE_use e1
  clear e e1
  · cases e2
    have hT := (T0_ok (lv := lv + 1) hW).fn (N_big_endian hW) (K_big_endian hW) (w_big (lv := lv) hW)
    exact ⟨rfl, Runs.ret (n := 9) hT rfl ⟨rfl, hc.1, hc.2⟩ rfl⟩
theorem str_signs : ∀ n : Nat, n < 64 → (∀ c ∈ (Str.ofString (toString n)).cps.toList, c < 256) ∧ (Str.ofString (toString n)).cps.size ≤ 1048576 := by decide +kernel
theorem w_decimal (hW : W.K = KK P) : CallOk W (lv + 2) (.ref 154) spDec := by
  refine fn_ok (D_decimal hW) (by decide) fun ps r c e hc => ?_
  obtain ⟨b, ps, rfl, e1⟩ := tI_use e
  obtain ⟨rfl, e2⟩ := tE_use e1
  clear e e1
  · cases e2
    obtain ⟨h1, h2⟩ := (show _ ∧ _ from hc)
    obtain ⟨n, rfl⟩ := Int.eq_ofNat_of_zero_le h1
    have hT := (T0_ok (lv := lv + 1) hW).fn (N_octets_of hW) (K_octets_of hW) (w_octets_of (lv := lv) hW)
    refine ⟨rfl, Runs.ret (n := 9) hT rfl (And.intro ?_ (str_signs n (by lia))) rfl⟩
    show (n : Int).natAbs.log2 < 1920
    have : n.log2 ≤ n := Nat.log2_le_self n
    show n.log2 < 1920
    lia
end
end Nt

set_option Elab.async false
set_option maxRecDepth 100000
set_option linter.all false
open PySem PySem.W PyProof.Rows PySem.Calls
namespace Nt
set_option genInjectivity false
set_option genSizeOf false
set_option compiler.extract_closed false
theorem nsMap_of_in {K : Frag} {h : Heap} {N : Addr} {x : Str} {v : Value} (X : K.In h) (e : nsOkIn K N = true) (q : nsIn K N x = some (some v)) : h.nsMap N x = some v := by
  obtain ⟨o, es, ep, ho, hd, _, hf⟩ := Heap.Ns.of_isNs (isNs_of_in X e)
  unfold nsIn at q
  split at q
  · rename_i c d es' n' sl q'
    have := X _ _ q'
    rw [ho] at this
    cases this
    cases hd
    split at q
    · rename_i en he
      cases q
      rw [← hf]
      unfold nsFind findBy
      rw [← Array.find?_toList, he]
      rfl
    · split at q <;> cases q
  · cases q
section
variable {W : Wd} {P : Params}
theorem D_init (hW : W.K = KK P) : ∃ p1 p2 p3 p4 scope, DefIs W 29 "GitError.__init__" [.Assign [.Attribute (.Name "self" p1) "told" p2] (.Name "told" p3) p4] scope ["self", "told"] (.ref 28) := by
  obtain ⟨p1, p2, p3, p4, e⟩ : ∃ p1 p2 p3 p4, fBody (cm 2 0) = [.Assign [.Attribute (.Name "self" p1) "told" p2] (.Name "told" p3) p4] := ⟨_, _, _, _, rfl⟩
  refine ⟨p1, p2, p3, p4, fScope (cm 2 0), ?_⟩
  rw [← e]
  have h : DefIs W 29 "GitError.__init__" (fBody (cm 2 0)) (fScope (cm 2 0)) ["self", "told"] (.ref 28) := {
    def_ := ⟨"__init__", fParams (cm 2 0), .ref 22, .str "gitcore.base" 187, ⟨.type "function", none, #[], by rw [hW]; kernel_rfl⟩, fun s vs hX h => by
      obtain ⟨a, b, rfl⟩ := args2 h
      exact .of_defaults (T := 22) (o := ⟨Value.type "tuple", none, Data.seq #[Value.str (Str.ofString "") 203], #[]⟩) rfl (hX _ _ (by rw [hW]; kernel_rfl)) rfl rfl rfl⟩
    code := by rw [hW]; kernel_rfl
    cell := by decide +kernel
    loc := by decide +kernel
    co := by kernel_rfl
    gen := by kernel_rfl
    kind := by kernel_rfl }
  exact h
theorem git_cls {h : Heap} (X : (KK P).In h) : ∃ nm q N bs sn sub ab col dd k0 k1 k2 k3 k5 mN, h.get? 32 = some (excClassObj nm q 32 N bs bmE true sn sub ab col dd k0 k1 k2 k3 k5 "Exception.__new__") ∧ h.Ns N mN ∧ mN "__init__" = some (.ref 29) ∧ mN "told" = none ∧ mN "__setattr__" = none :=
  ⟨"GitError", "GitError", 31, [.type "Exception"], [], [.ref 45, .ref 57, .ref 69, .ref 81], false, none, none, some (.ref 15), none, some (.str "GitError" 191), some (.str "GitError" 199), some (.bool true), h.nsMap 31,
    X _ _ (by kernel_rfl), .of_isNs (isNs_of_in X (by kernel_rfl)), nsMap_of_in X (by kernel_rfl) (by kernel_rfl), nsMap_none_of_in X (by kernel_rfl) (by kernel_rfl), nsMap_none_of_in X (by kernel_rfl) (by kernel_rfl)⟩
theorem X_patch (hW : W.K = KK P) : XN W "BadPatch" 81 where
  nm := by rw [hW]; kernel_rfl
  nd := by decide +kernel
  cls := by
    obtain ⟨p1, p2, p3, p4, sc, D⟩ := D_init hW
    refine ⟨32, 29, _, p1, p2, p3, p4, sc, _, fun h X => ?_, D, fnO (cm 2 0) "GitError.__init__" (Value.ref 22) (.str (Str.ofString "gitcore.base") 187) 28, by rw [hW]; kernel_rfl, rfl⟩
    rw [hW] at X
    exact ⟨⟨"BadPatch", "BadPatch", 80, [.ref 32], [], [], false, none, none, some (.ref 72), none, some (.str "BadPatch" 269), some (.str "BadPatch" 277), some (.bool true), h.nsMap 80,
      X _ _ (by kernel_rfl), .of_isNs (isNs_of_in X (by kernel_rfl)), nsMap_none_of_in X (by kernel_rfl) (by kernel_rfl), nsMap_none_of_in X (by kernel_rfl) (by kernel_rfl), nsMap_none_of_in X (by kernel_rfl) (by kernel_rfl)⟩, git_cls X⟩
theorem X_delta (hW : W.K = KK P) : XN W "BadDelta" 69 where
  nm := by rw [hW]; kernel_rfl
  nd := by decide +kernel
  cls := by
    obtain ⟨p1, p2, p3, p4, sc, D⟩ := D_init hW
    refine ⟨32, 29, _, p1, p2, p3, p4, sc, _, fun h X => ?_, D, fnO (cm 2 0) "GitError.__init__" (Value.ref 22) (.str (Str.ofString "gitcore.base") 187) 28, by rw [hW]; kernel_rfl, rfl⟩
    rw [hW] at X
    exact ⟨⟨"BadDelta", "BadDelta", 68, [.ref 32], [], [], false, none, none, some (.ref 60), none, some (.str "BadDelta" 253), some (.str "BadDelta" 261), some (.bool true), h.nsMap 68,
      X _ _ (by kernel_rfl), .of_isNs (isNs_of_in X (by kernel_rfl)), nsMap_none_of_in X (by kernel_rfl) (by kernel_rfl), nsMap_none_of_in X (by kernel_rfl) (by kernel_rfl), nsMap_none_of_in X (by kernel_rfl) (by kernel_rfl)⟩, git_cls X⟩
theorem X_bits (hW : W.K = KK P) : XN W "BadBits" 57 where
  nm := by rw [hW]; kernel_rfl
  nd := by decide +kernel
  cls := by
    obtain ⟨p1, p2, p3, p4, sc, D⟩ := D_init hW
    refine ⟨32, 29, _, p1, p2, p3, p4, sc, _, fun h X => ?_, D, fnO (cm 2 0) "GitError.__init__" (Value.ref 22) (.str (Str.ofString "gitcore.base") 187) 28, by rw [hW]; kernel_rfl, rfl⟩
    rw [hW] at X
    exact ⟨⟨"BadBits", "BadBits", 56, [.ref 32], [], [], false, none, none, some (.ref 48), none, some (.str "BadBits" 237), some (.str "BadBits" 245), some (.bool true), h.nsMap 56,
      X _ _ (by kernel_rfl), .of_isNs (isNs_of_in X (by kernel_rfl)), nsMap_none_of_in X (by kernel_rfl) (by kernel_rfl), nsMap_none_of_in X (by kernel_rfl) (by kernel_rfl), nsMap_none_of_in X (by kernel_rfl) (by kernel_rfl)⟩, git_cls X⟩
end
end Nt

set_option Elab.async false
set_option maxRecDepth 100000
set_option linter.all false
open PySem PySem.W PyProof.Rows PySem.Calls
namespace Nt
set_option genInjectivity false
set_option genSizeOf false
set_option compiler.extract_closed false
/-- a size, and what stands behind it -/
noncomputable def szGo : List UInt8 → Option (Nat × List UInt8)
  | [] => none
  | o :: r => if o.toNat < 128 then some (o.toNat, r) else (szGo r).map fun x => (o.toNat % 128 + 128 * x.1, x.2)
noncomputable def szN (b : List UInt8) : Int := (((szGo b).getD (0, [])).1 : Nat)
noncomputable def szK (b : List UInt8) : Int := (b.length : Int) - (((szGo b).getD (0, [])).2.length : Nat)
noncomputable def digs (n : Int) : List UInt8 → Option Int
  | [] => some n
  | o :: r => if 48 ≤ o.toNat ∧ o.toNat < 58 then digs (10 * n + ((o.toNat : Int) - 48)) r else none
noncomputable def optI : Option Int → PV
  | some n => .int n
  | none => .none
noncomputable def numOf (b : List UInt8) : Option Int := if b = [] ∨ (1 < b.length ∧ b.getD 0 0 = 48) then none else digs 0 b
noncomputable def spNumBy : Spec := tB fun b => tI fun m => tE (some (optI (if b = [] then none else digs 0 b), some (m = 10 ∧ b.length ≤ 65536)))
noncomputable def spNum : Spec := tB fun b => tE (some (optI (numOf b), some (b.length ≤ 65536)))
noncomputable def spAtSize : Spec := tB fun b => tI fun a => tE (some (.pair (.int (szN b)) (.int (szK b)), some (a = 0 ∧ (szGo b).isSome = true ∧ b.length ≤ 65536)))
noncomputable def resAt : List PV → Out
  | [.bytes b, _] => if (szGo b).isSome = true then .ret (.pair (.int (szN b)) (.int (szK b))) else .exc 69
  | _ => .exc 0
noncomputable def domAt (ps : List PV) : Prop := ∃ b, ps = [.bytes b, .int 0] ∧ b.length ≤ 65536
noncomputable def spTold : Spec := tB fun b => tS fun _ => tE (some (.int ((numOf b).getD 0), some ((numOf b).isSome = true ∧ b.length ≤ 65536)))
noncomputable def resTold : List PV → Out
  | [.bytes b, _] => if (numOf b).isSome = true then .ret (.int ((numOf b).getD 0)) else .exc 81
  | _ => .exc 0
noncomputable def domTold (ps : List PV) : Prop := ∃ b w, ps = [.bytes b, .str w] ∧ b.length ≤ 65536
theorem mulOk_hold {a b : Int} (h : IntMulOk a b) : (mulOk a b).holds := by
  unfold mulOk
  split
  · trivial
  · split
    · trivial
    · exact h
theorem mul_small {a b : Int} (h0 : 0 ≤ a) (h1 : a < 18446744073709551616) : (mulOk a b).holds := mulOk_hold (IntMulOk.of_left (intBits_le_64 (by lia) (by lia)))
theorem item0 {b : List UInt8} {o : UInt8} {t : List UInt8} {i : Nat} (h : b.drop i = o :: t) : b.getD i 0 = o ∧ i < b.length := by
  have hi : i < b.length := by
    rcases Nat.lt_or_ge i b.length with h' | h'
    · exact h'
    · rw [List.drop_eq_nil_of_le h'] at h; cases h
  rw [List.drop_eq_getElem_cons hi] at h
  injection h with h1 h2
  exact ⟨by rw [List.getD_eq_getElem?_getD, List.getElem?_eq_getElem hi]; exact h1, hi⟩
theorem szGo_len : ∀ {b : List UInt8} {x : Nat × List UInt8}, szGo b = some x → x.2.length < b.length
  | o :: r, x, h => by
    unfold szGo at h
    split at h
    · cases h; exact Nat.lt_succ_self _
    · cases e : szGo r with
      | none => rw [e] at h; cases h
      | some y =>
        rw [e] at h
        cases h
        exact Nat.lt_succ_of_lt (szGo_len (b := r) (x := y) e)
theorem szGo_cons {o : UInt8} {r : List UInt8} : szGo (o :: r) = if o.toNat < 128 then some (o.toNat, r) else (szGo r).map fun x => (o.toNat % 128 + 128 * x.1, x.2) := rfl
theorem ite_next {c : Bool} {p : PV} {C : Addr} {l : Loc} {o : List Str} : ¬ Out.next l o = if c = true then Out.ret p else .exc C := by
  cases c <;> exact fun h => nomatch h
section
variable {X : Exc} {W : Wd} {lv : Nat} {P : Params} {scope : Scope} {cel loc : Loc} {own : List Str} {rest : List Stmt} {K : Out → Prop}
theorem Snd.ite {sc : Sc} {t a b : Expr} {pos : Pos} {bt : Bool} {p : PV} (h : SndT W lv sc loc t bt) (ha : bt = true → Snd W lv sc loc a p) (hb : bt = false → Snd W lv sc loc b p) : Snd W lv sc loc (.IfExp t a b pos) p := by
  intro f env s Q E C g
  refine ifR (h f env s _ E C fun h' tk k => ?_)
  have C' := C.stays (tk := tk) k
  cases bt with
  | true => exact ha rfl f env _ Q E C' (g.after k)
  | false => exact hb rfl f env _ Q E C' (g.after k)
theorem G.retS {e : Expr} {pos : Pos} {p : PV} (h : Snd W lv ⟨scope.names, cel⟩ loc e p) (hK : K (.ret p)) : Runs X W lv scope cel loc own (.Return (some e) pos :: rest) K := by
  intro f m s Q E C P
  rw [execs_cons, exec_Return_some]
  simp only [bind_assoc]
  refine wpR_bind (wpR_standAt (wpR_bind (h f f.env s _ E C.env fun v h' tk k r => ?_)))
  have x := Nx.of_stays (tk := tk) C k
  exact wpR_bind (wpR_pure (wpR_pure (P.ret _ _ _ _ _ hK x.ok.fr r)))
theorem w_at_size (hW : W.K = KK P) : CallXOk W (lv + 3) (.ref 133) domAt (fun ps o => o = resAt ps) := by
  refine fnX_ok (D_at_size hW) (by decide) fun ps ⟨b, hp, hz⟩ => ?_
  subst hp
  refine ⟨rfl, fun l o h => ?_, ?_⟩
  · exact ite_next h
  refine G.let1 (n := 9) (T0_ok hW) rfl trivial rfl rfl (G.let1 (n := 9) (T0_ok hW) rfl trivial rfl rfl ?_)
  refine G.while_ (n := 9) (σ := Nat × Nat) (T0_ok hW) (fun y => [("octets", .bytes b), ("at", .int (y.1 : Int)), ("number", .int (y.2 : Int)), ("shift", .int (7 * y.1 : Int))]) []
    (fun y => y.1 ≤ b.length ∧ y.2 < 2 ^ (7 * y.1) ∧ szGo b = (szGo (b.drop y.1)).map fun x => (y.2 + 2 ^ (7 * y.1) * x.1, x.2)) (fun y => b.length - y.1) (0, 0)
    (.cons rfl (.cons rfl (.cons rfl (.cons rfl .nil)))) (fun _ h => nomatch h) ⟨Nat.zero_le _, by decide, ?_⟩ fun y hy => ⟨true, _, rfl, trivial, fun _ => ?_, fun h => nomatch h⟩
  · show szGo b = (szGo b).map fun x => (0 + 1 * x.1, x.2)
    cases szGo b with
    | none => rfl
    | some x => simp
  obtain ⟨k, num⟩ := y
  obtain ⟨h1, h2, h3⟩ := hy
  dsimp only at h1 h2 h3
  refine Runs.ite (n := 9) (T0_ok hW) rfl (show b.length ≤ 16777216 by lia) (fun h => ?_) fun h => ?_
  · have h : (b.length : Int) ≤ (k : Int) := of_decide_eq_true h
    have e : b.drop k = [] := List.drop_eq_nil_of_le (by lia)
    refine Runs.raise (n := 9) (T0_ok hW) (X_delta hW) rfl rfl trivial ?_
    rw [e] at h3
    show Out.exc 69 = if (szGo b).isSome = true then _ else _
    rw [h3]; rfl
  · have h : ¬ (b.length : Int) ≤ (k : Int) := of_decide_eq_false h
    cases e : b.drop k with
    | nil => have := List.drop_eq_nil_iff.mp e; lia
    | cons o t =>
      obtain ⟨e0, _⟩ := item0 e
      have et : b.drop (k + 1) = t := by rw [← List.drop_drop, e]; rfl
      have ho : o.toNat < 256 := o.toNat_lt
      refine G.let1 (n := 9) (p := .int (o.toNat : Int)) (c := some (0 ≤ (k : Int) ∧ (k : Int) < (b.length : Int) ∧ b.length ≤ 1048576)) (T0_ok hW) ?_ ⟨by lia, by lia, by lia⟩ rfl rfl ?_
      · rw [← e0]; rfl
      refine G.let1 (n := 9) (T0_ok hW) rfl trivial rfl rfl (G.let1 (n := 9) (T0_ok hW) rfl ?_ rfl rfl (G.let1 (n := 9) (T0_ok hW) rfl trivial rfl rfl ?_))
      · show 0 ≤ (7 * k : Int) ∧ (7 * k : Int) ≤ 1000000 ∧ (Builtin.bitAnd (o.toNat : Int) 127).natAbs < 2 ^ 64
        rw [band127 (by lia)]
        exact ⟨by lia, by lia, by lia⟩
      have en : Builtin.bitOr (num : Int) (Builtin.bitAnd (o.toNat : Int) 127 * 2 ^ (7 * k : Int).toNat) = ((num + o.toNat % 128 * 2 ^ (7 * k) : Nat) : Int) := by
        rw [band127 (by lia), show (7 * k : Int).toNat = 7 * k by lia, show ((o.toNat : Int) % 128) = ((o.toNat % 128 : Nat) : Int) by lia, bor_shift h2, Int.natCast_add, Int.natCast_mul, Int.natCast_pow]
        rfl
      have h3' := h3
      rw [e] at h3'
      rw [szGo_cons] at h3'
      refine Runs.ite (n := 9) (T0_ok hW) rfl trivial (fun h => ?_) fun h => ?_
      · have h : (o.toNat : Int) < 128 := of_decide_eq_true h
        rw [if_pos (by lia)] at h3'
        have h3' : szGo b = some (num + 2 ^ (7 * k) * o.toNat, t) := h3'
        have hl : t.length = b.length - (k + 1) := by rw [← et, List.length_drop]
        refine Runs.ret (n := 9) (T0_ok hW) rfl trivial ?_
        show Out.ret (.pair (.int (Builtin.bitOr (num : Int) (Builtin.bitAnd (o.toNat : Int) 127 * 2 ^ (7 * k : Int).toNat))) (.int ((k : Int) + 1))) = if (szGo b).isSome = true then Out.ret (.pair (.int (szN b)) (.int (szK b))) else .exc 69
        unfold szN szK
        rw [en, h3', if_pos (by rfl)]
        congr 3
        · show ((num + o.toNat % 128 * 2 ^ (7 * k) : Nat) : Int) = ((num + 2 ^ (7 * k) * o.toNat : Nat) : Int)
          rw [Nat.mod_eq_of_lt (by lia), Nat.mul_comm]
        · show (k : Int) + 1 = (b.length : Int) - (t.length : Int)
          lia
      · have h : ¬ (o.toNat : Int) < 128 := of_decide_eq_false h
        rw [if_neg (by lia)] at h3'
        refine Runs.nil ⟨(k + 1, num + o.toNat % 128 * 2 ^ (7 * k)), ⟨?_, ?_, ?_⟩, ?_, .cons rfl (.cons rfl (.cons ?_ (.cons ?_ .nil))), fun _ h => nomatch h⟩
        · show k + 1 ≤ b.length; lia
        · show num + o.toNat % 128 * 2 ^ (7 * k) < 2 ^ (7 * (k + 1))
          have e7 : 2 ^ (7 * (k + 1)) = 128 * 2 ^ (7 * k) := by rw [Nat.mul_add, Nat.pow_add, Nat.mul_comm]
          rw [e7]
          have : o.toNat % 128 < 128 := Nat.mod_lt _ (by decide)
          have : o.toNat % 128 * 2 ^ (7 * k) ≤ 127 * 2 ^ (7 * k) := Nat.mul_le_mul_right _ (by lia)
          lia
        · show szGo b = (szGo (b.drop (k + 1))).map fun x => (num + o.toNat % 128 * 2 ^ (7 * k) + 2 ^ (7 * (k + 1)) * x.1, x.2)
          rw [et, h3', Option.map_map]
          congr 1
          funext x
          show (num + 2 ^ (7 * k) * (o.toNat % 128 + 128 * x.1), x.2) = _
          rw [Nat.mul_add, ← Nat.mul_assoc, Nat.mul_comm _ (o.toNat % 128), Nat.mul_add 7 k 1, Nat.pow_add]
          simp only [Nat.add_assoc]
        · show b.length - (k + 1) < b.length - k; lia
        · show some (PV.int (Builtin.bitOr (num : Int) (Builtin.bitAnd (o.toNat : Int) 127 * 2 ^ (7 * k : Int).toNat))) = some (.int ((num + o.toNat % 128 * 2 ^ (7 * k) : Nat) : Int))
          rw [en]
        · show some (PV.int (7 * (k : Int) + 7)) = some (.int (7 * ((k + 1 : Nat) : Int)))
          congr 2
theorem w_at_size' (hW : W.K = KK P) : CallOk W (lv + 3) (.ref 133) spAtSize := (w_at_size hW).ret fun ps p c e hc => by
  obtain ⟨b, ps, rfl, e1⟩ := tB_use e
  obtain ⟨a, ps, rfl, e2⟩ := tI_use e1
  obtain ⟨rfl, e3⟩ := tE_use e2
  clear e e1 e2
  · cases e3
    obtain ⟨rfl, h1, h2⟩ := (show _ ∧ _ ∧ _ from hc)
    exact ⟨⟨b, rfl, h2⟩, fun o ho => ho.trans (if_pos h1)⟩
end
end Nt

set_option Elab.async false
set_option maxRecDepth 100000
set_option linter.all false
open PySem PySem.W PyProof.Rows PySem.Calls
namespace Nt
set_option genInjectivity false
set_option genSizeOf false
set_option compiler.extract_closed false
/-- the octets that a size in front of them tells -/
noncomputable def unp (b : List UInt8) : Option (List UInt8) := match szGo b with
  | some x => if x.1 = x.2.length then some x.2 else none
  | none => none
noncomputable def optB : Option (List UInt8) → PV
  | some n => .bytes n
  | none => .none
noncomputable def spLUnp : Spec := tB fun b => tE (some (optB (unp b), some (b.length ≤ 65536)))
/-- what the codec's reader answers -/
noncomputable def unpRaw (b : List UInt8) : Option (List UInt8 × Int) := match szGo b with
  | some x => if x.2.length < x.1 then none else some (x.2.take x.1, (b.length : Int) - x.2.length + x.1)
  | none => none
noncomputable def spUnpack : Spec := tC <| tB fun b => tI fun a => tE (some (.pair (.bytes ((unpRaw b).getD ([], 0)).1) (.int ((unpRaw b).getD ([], 0)).2), some (a = 0 ∧ (unpRaw b).isSome = true ∧ b.length ≤ 65536)))
noncomputable def resUnpack : List PV → Out
  | [_, .bytes b, _] => if (unpRaw b).isSome = true then .ret (.pair (.bytes ((unpRaw b).getD ([], 0)).1) (.int ((unpRaw b).getD ([], 0)).2)) else .exc 57
  | _ => .exc 0
noncomputable def domUnpack (ps : List PV) : Prop := ∃ b, ps = [.codec, .bytes b, .int 0] ∧ b.length ≤ 65536
theorem digs_cons {n : Int} {o : UInt8} {r : List UInt8} : digs n (o :: r) = if 48 ≤ o.toNat ∧ o.toNat < 58 then digs (10 * n + ((o.toNat : Int) - 48)) r else none := rfl
theorem szGo_drop : ∀ {b : List UInt8} {x : Nat × List UInt8}, szGo b = some x → b.drop (b.length - x.2.length) = x.2
  | o :: r, x, h => by
    rw [szGo_cons] at h
    split at h
    · cases h
      show (o :: r).drop (r.length + 1 - r.length) = r
      rw [show r.length + 1 - r.length = 1 by lia]; rfl
    · cases e : szGo r with
      | none => rw [e] at h; cases h
      | some y =>
        rw [e] at h
        cases h
        have h1 := szGo_drop (b := r) (x := y) e
        have h2 := szGo_len e
        show (o :: r).drop (r.length + 1 - y.2.length) = y.2
        rw [show r.length + 1 - y.2.length = (r.length - y.2.length) + 1 by lia, List.drop_succ_cons]
        exact h1
section
variable {X : Exc} {W : Wd} {lv : Nat} {P : Params} {scope : Scope} {cel loc : Loc} {own : List Str} {rest : List Stmt} {K : Out → Prop}
theorem w_number_by (hW : W.K = KK P) : CallOk W (lv + 1) (.ref 140) spNumBy := by
  refine fn_ok (D_number_by hW) (by decide) fun ps r c e hc => ?_
  obtain ⟨b, ps, rfl, e1⟩ := tB_use e
  obtain ⟨m, ps, rfl, e2⟩ := tI_use e1
  obtain ⟨rfl, e3⟩ := tE_use e2
  clear e e1 e2
  · cases e3
    obtain ⟨rfl, hz⟩ := (show _ ∧ _ from hc)
    refine ⟨rfl, ?_⟩
    refine Runs.ite (n := 9) (T0_ok hW) rfl (show b.length ≤ 16777216 by lia) (fun h => ?_) fun h => ?_
    · have h : (b.length : Int) = 0 := eq_of_beq h
      have hb : b = [] := List.eq_nil_of_length_eq_zero (by lia)
      refine Runs.ret (n := 9) (T0_ok hW) rfl trivial ?_
      rw [if_pos hb]; rfl
    · have hb : b ≠ [] := fun q => by subst q; cases h
      rw [if_neg hb]
      refine G.let1 (n := 9) (T0_ok hW) rfl trivial rfl rfl ?_
      refine G.for_ (n := 9) (σ := Int) (T0_ok hW) (fun n => [("number", .int n), ("base", .int 10)]) [] (fun i n => digs 0 b = digs n (b.drop i)) 0 rfl trivial rfl trivial rfl rfl (.inl rfl) (.cons rfl (.cons rfl .nil)) (fun _ h => nomatch h) rfl (fun i q n hq hJ => ?_) fun n hJ => ?_
      · obtain ⟨_, rfl, o, t, e1, rfl, e2⟩ := bytes_it hq
        rw [e1, digs_cons] at hJ
        refine G.let1 (n := 9) (T0_ok hW) rfl trivial rfl rfl (Runs.ite (n := 9) (T0_ok hW) rfl trivial (fun h => ?_) fun h => ?_)
        · have h : (!(decide ((0 : Int) ≤ (o.toNat : Int) - 48) && decide ((o.toNat : Int) - 48 < 10))) = true := h
          rw [if_neg (by intro q; rw [decide_eq_true (by lia), decide_eq_true (by lia)] at h; cases h)] at hJ
          refine Runs.ret (n := 9) (T0_ok hW) rfl trivial ?_
          rw [hJ]; rfl
        · have h : (!(decide ((0 : Int) ≤ (o.toNat : Int) - 48) && decide ((o.toNat : Int) - 48 < 10))) = false := h
          rw [Bool.not_eq_false', Bool.and_eq_true, decide_eq_true_iff, decide_eq_true_iff] at h
          rw [if_pos (by lia)] at hJ
          refine G.let1 (n := 9) (T0_ok hW) rfl trivial rfl rfl (Runs.nil ⟨10 * n + ((o.toNat : Int) - 48), ?_, .cons rfl (.cons rfl .nil), fun _ h => nomatch h⟩)
          rw [hJ, e2]
      · refine Runs.ret (n := 9) (T0_ok hW) rfl trivial ?_
        rw [hJ]
        show _ = Out.ret (optI (digs n (b.drop (b.map bytePV).length)))
        rw [List.length_map, List.drop_length]; rfl
theorem w_number_of (hW : W.K = KK P) : CallOk W (lv + 2) (.ref 147) spNum := by
  refine fn_ok (D_number_of hW) (by decide) fun ps r c e hc => ?_
  obtain ⟨b, ps, rfl, e1⟩ := tB_use e
  obtain ⟨rfl, e2⟩ := tE_use e1
  clear e e1
  · cases e2
    have hz : b.length ≤ 65536 := hc
    have hT := (T0_ok (lv := lv + 1) hW).fn (N_number_by hW) (K_number_by hW) (w_number_by (lv := lv) hW)
    refine ⟨rfl, ?_⟩
    refine Runs.ite (n := 9) hT rfl (And.intro (show b.length ≤ 16777216 by lia) fun h => ?_) (fun h => ?_) fun h => ?_
    · have h : (1 : Int) < (b.length : Int) := of_decide_eq_true h
      exact ⟨by decide, (by show (0 : Int) < (b.length : Int); lia), (by show b.length ≤ 1048576; lia)⟩
    · have h : (decide ((1 : Int) < (b.length : Int)) && (((b.getD 0 0).toNat : Int) == 48 && true)) = true := h
      rw [Bool.and_eq_true, Bool.and_true, decide_eq_true_iff, beq_iff_eq] at h
      refine Runs.ret (n := 9) hT rfl trivial ?_
      unfold numOf
      rw [if_pos (.inr ⟨by lia, UInt8.toNat_inj.mp (by show (b.getD 0 0).toNat = 48; lia)⟩)]; rfl
    · have h : (decide ((1 : Int) < (b.length : Int)) && (((b.getD 0 0).toNat : Int) == 48 && true)) = false := h
      refine Runs.ret (n := 9) hT rfl ⟨rfl, hz⟩ ?_
      unfold numOf
      congr 2
      by_cases hb : b = []
      · rw [if_pos hb, if_pos (.inl hb)]
      · rw [if_neg hb, if_neg]
        rintro (q | ⟨q1, q2⟩)
        · exact hb q
        · rw [q2, decide_eq_true (by lia)] at h; cases h
theorem w_told_number (hW : W.K = KK P) : CallXOk W (lv + 3) (.ref 194) domTold (fun ps o => o = resTold ps) := by
  refine fnX_ok (D_told_number hW) (by decide) fun ps ⟨b, w, hp, hz⟩ => ?_
  subst hp
  refine ⟨rfl, fun l o h => ite_next h, ?_⟩
  have hT := (T0_ok (lv := lv + 2) hW).fn (N_number_of hW) (K_number_of hW) (w_number_of (lv := lv) hW)
  refine G.let1 (n := 9) (p := optI (numOf b)) hT rfl hz rfl (by show (_ || !false) = true; rw [Bool.not_false, Bool.or_true]) ?_
  show Runs _ _ _ _ _ _ _ _ (fun o => o = if (numOf b).isSome = true then .ret (.int ((numOf b).getD 0)) else .exc 81)
  cases h : numOf b with
  | none =>
    refine Runs.ite (n := 9) hT rfl trivial (fun _ => ?_) fun h => nomatch h
    exact Runs.raise (n := 9) hT (X_patch hW) rfl rfl trivial rfl
  | some n =>
    refine Runs.ite (n := 9) hT rfl trivial (fun h => nomatch h) fun _ => ?_
    exact Runs.ret (n := 9) hT rfl trivial rfl
theorem w_told' (hW : W.K = KK P) : CallOk W (lv + 3) (.ref 194) spTold := (w_told_number hW).ret fun ps p c e hc => by
  obtain ⟨b, ps, rfl, e1⟩ := tB_use e
  obtain ⟨w, ps, rfl, e2⟩ := tS_use e1
  obtain ⟨rfl, e3⟩ := tE_use e2
  clear e e1 e2
  · cases e3
    obtain ⟨h1, h2⟩ := (show _ ∧ _ from hc)
    exact ⟨⟨b, w, rfl, h2⟩, fun o ho => ho.trans (if_pos h1)⟩
theorem w_unpack (hW : W.K = KK P) : CallXOk W (lv + 4) (.ref 216) domUnpack (fun ps o => o = resUnpack ps) := by
  refine fnX_ok (D_unpack hW) (by decide) fun ps ⟨b, hp, hz⟩ => ?_
  subst hp
  refine ⟨rfl, fun l o h => ite_next h, ?_⟩
  have hT := (T0_ok (lv := lv + 3) hW).fn (N_at_size hW) (K_at_size hW) (w_at_size' (lv := lv) hW)
  show Runs _ _ _ _ _ _ _ _ (fun o => o = if (unpRaw b).isSome = true then .ret (.pair (.bytes ((unpRaw b).getD ([], 0)).1) (.int ((unpRaw b).getD ([], 0)).2)) else .exc 57)
  cases h : szGo b with
  | none =>
    have hr : unpRaw b = none := by unfold unpRaw; rw [h]
    refine Runs.tryR (lv := lv + 1) (Kb := fun o => o = .exc 69) (X_delta hW) (X_bits hW) rfl rfl ?_ (fun l o h => nomatch h) (fun p h => nomatch h) fun C' h => by cases h; rw [hr]; exact ⟨rfl, rfl⟩
    refine Runs.excAssign (raise_call (n := 9) (dom := domAt) (KK := fun ps o => o = resAt ps) (T0_ok hW) (N_at_size hW) (K_at_size hW) (w_at_size hW) rfl rfl rfl trivial ⟨b, rfl, hz⟩ fun o ho => ho.trans ?_) rfl rfl
    show (if (szGo b).isSome = true then _ else _) = _
    rw [h]; rfl
  | some x =>
    obtain ⟨n, t⟩ := x
    have hl := szGo_len h
    dsimp only at hl
    have e1 : szN b = (n : Int) := by unfold szN; rw [h]; rfl
    have e2 : szK b = (b.length : Int) - (t.length : Int) := by unfold szK; rw [h]; rfl
    have et : b.drop (b.length - t.length) = t := szGo_drop h
    have hr : unpRaw b = if t.length < n then none else some (t.take n, (b.length : Int) - t.length + n) := by unfold unpRaw; rw [h]
    refine Runs.tryR (lv := lv + 1) (Kb := fun o => o = .next [("self", .codec), ("octets", .bytes b), ("at", .int 0), ("size", .int (szN b)), ("begin", .int (szK b))] []) (X_delta hW) (X_bits hW) rfl rfl ?_ (fun l o h => ?_) (fun p h => nomatch h) fun C' h => nomatch h
    · refine G.letT (n := 9) hT rfl ⟨rfl, by rw [h]; rfl, hz⟩ rfl rfl trivial (Runs.nil ?_)
      rfl
    cases h
    refine Runs.ite (n := 9) hT rfl (show b.length ≤ 16777216 by lia) (fun hh => ?_) fun hh => ?_
    · have hh : (b.length : Int) < szK b + szN b := of_decide_eq_true hh
      rw [e1, e2] at hh
      rw [if_pos (by lia)] at hr
      refine Runs.raise (n := 9) hT (X_bits hW) rfl rfl trivial ?_
      rw [hr]; rfl
    · have hh : ¬ (b.length : Int) < szK b + szN b := of_decide_eq_false hh
      rw [e1, e2] at hh
      rw [if_neg (by lia)] at hr
      refine Runs.ret (n := 9) hT rfl (show b.length ≤ 16777216 by lia) ?_
      rw [hr]
      show Out.ret (.pair (.bytes (cut b (some (szK b)) (some (szK b + szN b)))) (.int (szK b + szN b))) = Out.ret (.pair (.bytes (t.take n)) (.int ((b.length : Int) - t.length + n)))
      rw [e1, e2, cut_to_nn b (by lia) (by lia), show ((b.length : Int) - (t.length : Int)).toNat = b.length - t.length by lia, et,
        show ((b.length : Int) - (t.length : Int) + (n : Int)).toNat - (b.length - t.length) = n by lia]
theorem w_unpack' (hW : W.K = KK P) : CallOk W (lv + 4) (.ref 216) spUnpack := (w_unpack hW).ret fun ps p c e hc => by
  obtain ⟨ps, rfl, e1⟩ := tC_use e
  obtain ⟨b, ps, rfl, e2⟩ := tB_use e1
  obtain ⟨a, ps, rfl, e3⟩ := tI_use e2
  obtain ⟨rfl, e4⟩ := tE_use e3
  clear e e1 e2 e3
  · cases e4
    obtain ⟨rfl, h1, h2⟩ := (show _ ∧ _ ∧ _ from hc)
    exact ⟨⟨b, rfl, h2⟩, fun o ho => ho.trans (if_pos h1)⟩
end
end Nt

set_option Elab.async false
set_option maxRecDepth 100000
set_option linter.all false
open PySem PySem.W PyProof.Rows PySem.Calls
namespace Nt
set_option genInjectivity false
set_option genSizeOf false
set_option compiler.extract_closed false
noncomputable def digit (o : UInt8) : Bool := decide (48 ≤ o.toNat) && decide (o.toNat < 58)
theorem digs_none : ∀ {b : List UInt8} {n : Int}, (∃ o ∈ b, digit o = false) → digs n b = none
  | o :: r, n, ⟨x, hx, hd⟩ => by
    rw [digs_cons]
    split
    · rename_i q
      refine digs_none ⟨x, (List.mem_cons.mp hx).resolve_left (fun e => ?_), hd⟩
      subst e
      unfold digit at hd
      rw [decide_eq_true q.1, decide_eq_true q.2] at hd; cases hd
    · rfl
noncomputable def sg (n : Int) : UInt8 := SG.getD n.toNat 0
noncomputable def fiveGo : Nat → Int → List UInt8 → List UInt8
  | 0, _, f => f
  | k + 1, n, f => fiveGo k (n / 85) (sg (n % 85) :: f)
/-- a number's five signs -/
noncomputable def five (n : Int) : List UInt8 := fiveGo 5 n []
noncomputable def pad4 (p : List UInt8) : List UInt8 := p ++ List.replicate (4 - p.length) 0
noncomputable def spFive : Spec := tB fun p => tE (some (.bytes (five (valAt 0 (pad4 p))), some (p.length ≤ 4)))
theorem SG_len : SG.length = 85 := by decide +kernel
theorem LT_len : LT.length = 52 := by decide +kernel
theorem rng5 : rngL 0 5 1 = [0, 1, 2, 3, 4] := by decide +kernel
theorem comp_int_if {rec : Rec} {r : RecT} {sc : Sc} {x : Str} {elt : Expr} {ifs : List Expr} {α : Type} {g : α → PV} {F : α → Int} {G : α → Bool} {l : List α} (h : ∀ a ∈ l, asInt (rec sc [(x, g a)] elt) = F a) (h2 : ∀ a ∈ l, bit (turnT r sc x ifs (g a)) = G a) :
    (((l.map g).filter fun p => bit (turnT r sc x ifs p)).map fun p => asInt (rec sc [(x, p)] elt)) = (l.filter G).map F := by
  rw [List.filter_map, List.map_map]
  have e : l.filter ((fun p => bit (turnT r sc x ifs p)) ∘ g) = l.filter G := List.filter_congr fun a ha => h2 a ha
  rw [e]
  exact List.map_congr_left fun a ha => h a (List.mem_filter.mp ha).1
theorem comp_cond_if {recT : RecT} {sc : Sc} {x : Str} {ifs : List Expr} {α : Type} {g : α → PV} {l : List α} {n : Nat} {mt : PV → Prop} (hl : l.length ≤ n) (h1 : ∀ a ∈ l, met (turnT recT sc x ifs (g a))) (h : ∀ a ∈ l, mt (g a)) :
    (l.map g).length ≤ n ∧ ∀ p ∈ l.map g, met (turnT recT sc x ifs p) ∧ (bit (turnT recT sc x ifs p) = true → mt p) :=
  ⟨by rw [List.length_map]; exact hl, fun p hp => by obtain ⟨a, ha, rfl⟩ := List.mem_map.mp hp; exact ⟨h1 a ha, fun _ => h a ha⟩⟩
local macro_rules | `(tactic| walk_at "cond") => `(tactic| repeat' (first | exact trivial | refine Cond.and_mk ?_ ?_ | refine Cond.imp_mk fun _ => ?_))
section
variable {X : Exc} {W : Wd} {lv : Nat} {P : Params} {scope : Scope} {cel loc : Loc} {own : List Str} {rest : List Stmt} {K : Out → Prop}
theorem w_l_number (hW : W.K = KK P) : CallOk W (lv + 1) (.ref 254) spNum := by
  refine fn_ok (D_l_number hW) (by decide) fun ps r c e hc => ?_
  obtain ⟨b, ps, rfl, e1⟩ := tB_use e
  obtain ⟨rfl, e2⟩ := tE_use e1
  clear e e1
  · cases e2
    have hz : b.length ≤ 65536 := hc
    refine ⟨rfl, ?_⟩
    have hd : ∀ o : UInt8, (!(decide ((48 : Int) ≤ (o.toNat : Int)) && decide ((o.toNat : Int) ≤ 57))) = !digit o := fun o => by
      unfold digit
      congr 2
      · exact decide_eq_decide.mpr (by lia)
      · exact decide_eq_decide.mpr (by lia)
    have hz' : b.length ≤ 16777216 := by lia
    have ef : ((b.filter fun o => !digit o).map fun o => (o.toNat : Int)) = [] ↔ ∀ o ∈ b, digit o = true := by
      rw [List.map_eq_nil_iff, List.filter_eq_nil_iff]
      exact forall_congr' fun o => forall_congr' fun _ => by simp
    refine Runs.ite (n := 12) (T0_ok hW) rfl (fun _ => And.intro (And.intro hz' fun _ => hz') fun _ => And.intro (comp_cond_if hz' (fun o _ => trivial) fun o _ => trivial) (by show 0 ≤ 16777216; decide)) (fun h => ?_) fun h => ?_
    · rw [comp_int_if (G := fun o => !digit o) (F := fun o => (o.toNat : Int))] at h
      rotate_left
      · exact fun o _ => rfl
      · exact fun o _ => hd o
      have h : ((b == []) || ((decide ((1 : Int) < (b.length : Int)) && ((cut b none (some 1) == [48]) && true)) || ((!decide (((b.filter fun o => !digit o).map fun o => (o.toNat : Int)) = [])) || false))) = true := h
      refine Runs.ret (n := 9) (T0_ok hW) rfl trivial ?_
      unfold numOf
      split
      · rfl
      · rename_i q
        rw [not_or] at q
        rw [beq_eq_false_iff_ne.mpr q.1, Bool.false_or, Bool.or_eq_true, Bool.or_false, Bool.and_true, Bool.and_eq_true, decide_eq_true_iff, beq_iff_eq, cut_to_n b (by decide)] at h
        rcases h with ⟨h1, h2⟩ | h
        · exfalso
          refine q.2 ⟨by lia, ?_⟩
          match b, h2 with
          | x :: r, h2 => injection h2
        · rw [Bool.not_eq_true', decide_eq_false_iff_not, ef] at h
          rw [digs_none (by simpa using h)]; rfl
    · rw [comp_int_if (G := fun o => !digit o) (F := fun o => (o.toNat : Int))] at h
      rotate_left
      · exact fun o _ => rfl
      · exact fun o _ => hd o
      have h : ((b == []) || ((decide ((1 : Int) < (b.length : Int)) && ((cut b none (some 1) == [48]) && true)) || ((!decide (((b.filter fun o => !digit o).map fun o => (o.toNat : Int)) = [])) || false))) = false := h
      rw [Bool.or_eq_false_iff, Bool.or_eq_false_iff, Bool.or_false, Bool.and_true, Bool.not_eq_false', decide_eq_true_iff, ef, cut_to_n b (by decide)] at h
      obtain ⟨g1, g2, g3⟩ := h
      have hn : numOf b = digs 0 b := by
        unfold numOf
        rw [if_neg]
        rintro (q | ⟨q1, q2⟩)
        · subst q; cases g1
        · rw [decide_eq_true (by lia), Bool.true_and, beq_eq_false_iff_ne] at g2
          match b, q1, q2, g2 with
          | x :: r, q1, q2, g2 => exact g2 (by rw [show x = 48 from q2]; rfl)
      rw [hn]
      refine G.let1 (n := 9) (T0_ok hW) rfl trivial rfl rfl ?_
      refine G.for_ (n := 9) (σ := Int) (T0_ok hW) (fun n => [("found", .int n)]) [] (fun i n => digs 0 b = digs n (b.drop i)) 0 rfl trivial rfl trivial rfl rfl (.inl rfl) (.cons rfl .nil) (fun _ h => nomatch h) rfl (fun i q n hq hJ => ?_) fun n hJ => ?_
      · obtain ⟨_, rfl, o, t, e1, rfl, e2⟩ := bytes_it hq
        have hm := g3 o (List.mem_of_mem_drop (i := i) (by rw [e1]; exact .head _))
        unfold digit at hm
        rw [Bool.and_eq_true, decide_eq_true_iff, decide_eq_true_iff] at hm
        rw [e1, digs_cons, if_pos hm] at hJ
        refine G.let1 (n := 9) (T0_ok hW) rfl trivial rfl rfl (Runs.nil ⟨10 * n + (o.toNat : Int) - 48, ?_, .cons rfl .nil, fun _ h => nomatch h⟩)
        rw [hJ, e2, show 10 * n + (o.toNat : Int) - 48 = 10 * n + ((o.toNat : Int) - 48) by lia]
      · refine Runs.ret (n := 9) (T0_ok hW) rfl trivial ?_
        rw [hJ]
        show _ = Out.ret (optI (digs n (b.drop (b.map bytePV).length)))
        rw [List.length_map, List.drop_length]; rfl
theorem valAt_step {n : Int} {o : UInt8} {r : List UInt8} : valAt n (o :: r) = valAt (256 * n + (o.toNat : Int)) r := rfl
theorem w_l_five (hW : W.K = KK P) : CallOk W (lv + 1) (.ref 235) spFive := by
  refine fn_ok (D_l_five hW) (by decide) fun ps r c e hc => ?_
  obtain ⟨p, ps, rfl, e1⟩ := tB_use e
  obtain ⟨rfl, e2⟩ := tE_use e1
  clear e e1
  · cases e2
    have hz : p.length ≤ 4 := hc
    refine ⟨rfl, ?_⟩
    refine G.letT (n := 9) (T0_ok hW) rfl trivial rfl rfl trivial ?_
    have ep : p ++ List.replicate (4 - (p.length : Int)).toNat 0 = pad4 p := by unfold pad4; rw [show (4 - (p.length : Int)).toNat = 4 - p.length by lia]
    have el : (pad4 p).length = 4 := by unfold pad4; rw [List.length_append, List.length_replicate]; lia
    refine G.for_ (n := 9) (σ := Int) (T0_ok hW) (fun n => [("number", .int n), ("found", .bytes [])]) [] (fun i n => valAt 0 (pad4 p) = valAt n ((pad4 p).drop i)) 0 rfl ?_ rfl trivial rfl rfl (.inl rfl) (.cons rfl (.cons rfl .nil)) (fun _ h => nomatch h) rfl (fun i q n hq hJ => ?_) fun n hJ => ?_
    · refine And.intro (And.intro (show p.length ≤ 16777216 by lia) (And.intro ?_ ?_)) ?_
      · show (0 : Int) ≤ 4 - (p.length : Int); lia
      · show 4 - (p.length : Int) ≤ 1000000; lia
      · show p.length + (List.replicate (4 - (p.length : Int)).toNat (0 : UInt8)).length ≤ 16777216
        rw [List.length_replicate]; lia
    · have hq : ((pad4 p).map bytePV)[i]? = some q := by rw [← ep]; exact hq
      obtain ⟨_, rfl, o, t, e1, rfl, e2⟩ := bytes_it hq
      rw [e1, valAt_step] at hJ
      refine G.let1 (n := 9) (T0_ok hW) rfl trivial rfl rfl (Runs.nil ⟨256 * n + (o.toNat : Int), ?_, .cons rfl (.cons rfl .nil), fun _ h => nomatch h⟩)
      rw [hJ, e2]
    · have hn : valAt 0 (pad4 p) = n := by
        rw [hJ]
        show valAt n ((pad4 p).drop ((p ++ List.replicate (4 - (p.length : Int)).toNat 0).map bytePV).length) = n
        rw [ep, List.length_map, List.drop_length]; rfl
      rw [hn]
      refine G.for_ (n := 9) (σ := Int × List UInt8) (T0_ok hW) (fun y => [("number", .int y.1), ("found", .bytes y.2)]) [] (fun i y => five n = fiveGo (5 - i) y.1 y.2 ∧ y.2.length = i ∧ i ≤ 5) (n, []) rfl trivial rfl (show Builtin.Range.small 0 5 1 = true by decide +kernel) rfl rfl (.inl rfl) (.cons rfl (.cons rfl .nil)) (fun _ h => nomatch h) ⟨rfl, rfl, by decide⟩ (fun i q y hq hJ => ?_) fun y hJ => ?_
      · obtain ⟨rfl, hi⟩ := rngL_get hq
        have hi : i < (rngL 0 5 1).length := hi
        rw [rng5] at hi
        have hi : i < 5 := hi
        obtain ⟨m, f⟩ := y
        obtain ⟨g1, g2, _⟩ := hJ
        have m1 : 0 ≤ m.fmod 85 := Int.fmod_nonneg_of_pos _ (by decide)
        have m2 : m.fmod 85 < 85 := Int.fmod_lt_of_pos _ (by decide)
        dsimp only at g1 g2
        refine G.let1 (n := 9) (T0_ok hW) rfl ?_ rfl rfl (G.let1 (n := 9) (T0_ok hW) rfl trivial rfl rfl (Runs.nil ⟨(m / 85, sg (m % 85) :: f), ⟨?_, ?_, ?_⟩, .cons ?_ (.cons ?_ .nil), fun _ h => nomatch h⟩))
        · walk_at "cond"
          · refine ⟨m1, ?_, ?_⟩
            · show m.fmod 85 < (SG.length : Int); rw [SG_len]; exact m2
            · show SG.length ≤ 1048576; rw [SG_len]; decide
          · show 1 ≤ 16777216; decide
          · refine And.intro (fun k hk => ?_) (by show 1 ≤ 16777216; decide)
            cases List.mem_singleton.mp hk
            have := (SG.getD (m.fmod 85).toNat 0).toNat_lt
            exact ⟨by show (0 : Int) ≤ ((SG.getD (m.fmod 85).toNat 0).toNat : Int); lia, by show ((SG.getD (m.fmod 85).toNat 0).toNat : Int) < 256; lia⟩
          · show 1 + f.length ≤ 16777216; lia
        · rw [g1, show 5 - i = (5 - (i + 1)) + 1 by lia]; rfl
        · show f.length + 1 = i + 1; lia
        · lia
        · show some (PV.int (m.fdiv 85)) = some (.int (m / 85))
          rw [Int.fdiv_eq_ediv_of_nonneg _ (by decide)]
        · show some (PV.bytes ([((SG.getD (m.fmod 85).toNat 0).toNat : Int).toNat.toUInt8] ++ f)) = some (.bytes (sg (m % 85) :: f))
          rw [ofU8', Int.fmod_eq_emod_of_nonneg _ (by decide)]; rfl
      · obtain ⟨g1, g2, _⟩ := hJ
        refine Runs.ret (n := 9) (T0_ok hW) rfl trivial ?_
        have hlen : ((rngL 0 5 1).map PV.int).length = 5 := by rw [rng5]; rfl
        have g1 : five n = fiveGo (5 - ((rngL 0 5 1).map PV.int).length) y.1 y.2 := g1
        rw [hlen] at g1
        rw [g1]; rfl
theorem w_l_unpacked (hW : W.K = KK P) : CallOk W (lv + 1) (.ref 268) spLUnp := by
  refine fn_ok (D_l_unpacked hW) (by decide) fun ps r c e hc => ?_
  obtain ⟨b, ps, rfl, e1⟩ := tB_use e
  obtain ⟨rfl, e2⟩ := tE_use e1
  clear e e1
  · cases e2
    have hz : b.length ≤ 65536 := hc
    have hz' : b.length ≤ 16777216 := by lia
    refine ⟨rfl, ?_⟩
    refine G.letT (n := 9) (T0_ok hW) rfl trivial rfl rfl trivial ?_
    refine G.while_ (n := 9) (σ := Nat × Nat) (T0_ok hW) (fun y => [("packed", .bytes b), ("number", .int (y.2 : Int)), ("worth", .int ((2 ^ (7 * y.1) : Nat) : Int)), ("at", .int (y.1 : Int))]) []
      (fun y => y.1 ≤ b.length ∧ szGo b = (szGo (b.drop y.1)).map fun x => (y.2 + 2 ^ (7 * y.1) * x.1, x.2)) (fun y => b.length - y.1) (0, 0)
      (.cons rfl (.cons rfl (.cons rfl (.cons rfl .nil)))) (fun _ h => nomatch h) ⟨Nat.zero_le _, ?_⟩ fun y hy => ?_
    · show szGo b = (szGo b).map fun x => (0 + 1 * x.1, x.2)
      cases szGo b with
      | none => rfl
      | some x => simp
    obtain ⟨k, num⟩ := y
    obtain ⟨h1, h3⟩ := hy
    dsimp only at h1 h3
    refine ⟨_, _, rfl, And.intro (show b.length ≤ 16777216 by lia) fun h => And.intro (show (0 : Int) ≤ (k : Int) by lia) (And.intro (show (k : Int) < (b.length : Int) from of_decide_eq_true h) (show b.length ≤ 1048576 by lia)), fun h => ?_, fun h => ?_⟩
    · have h : (decide ((k : Int) < (b.length : Int)) && (decide (127 < ((b.getD k 0).toNat : Int)) && true)) = true := h
      rw [Bool.and_true, Bool.and_eq_true, decide_eq_true_iff, decide_eq_true_iff] at h
      cases e : b.drop k with
      | nil => have := List.drop_eq_nil_iff.mp e; lia
      | cons o t =>
        obtain ⟨e0, _⟩ := item0 e
        have et : b.drop (k + 1) = t := by rw [← List.drop_drop, e]; rfl
        rw [e0] at h
        have hm : (o.toNat : Int).fmod 128 = ((o.toNat % 128 : Nat) : Int) := by rw [Int.fmod_eq_emod_of_nonneg _ (by decide)]; lia
        rw [e, szGo_cons, if_neg (by lia)] at h3
        have item : (ev T0 7).1 ⟨(fScope (St 39)).names, []⟩ [("packed", .bytes b), ("number", .int (num : Int)), ("worth", .int ((2 ^ (7 * k) : Nat) : Int)), ("at", .int (k : Int))] (.Subscript (.Name "packed" default) (.Name "at" default) default) = some (.int ((b.getD k 0).toNat : Int), some (0 ≤ (k : Int) ∧ (k : Int) < (b.length : Int) ∧ b.length ≤ 1048576)) := rfl
        refine G.letT (n := 12) (r := ([("packed", .bytes b), ("number", .int ((num : Int) + ((b.getD k 0).toNat : Int).fmod 128 * ((2 ^ (7 * k) : Nat) : Int))), ("worth", .int (128 * ((2 ^ (7 * k) : Nat) : Int))), ("at", .int ((k : Int) + 1))], [])) (T0_ok hW) rfl ?_ rfl rfl trivial (Runs.nil ⟨(k + 1, num + o.toNat % 128 * 2 ^ (7 * k)), ⟨?_, ?_⟩, ?_, .cons rfl (.cons ?_ (.cons ?_ (.cons rfl .nil))), fun _ h => nomatch h⟩)
        · walk_at "cond"
          · exact ⟨show (0 : Int) ≤ (k : Int) by lia, show (k : Int) < (b.length : Int) by lia, show b.length ≤ 1048576 by lia⟩
          exact mul_small (show 0 ≤ ((b.getD k 0).toNat : Int).fmod 128 by rw [e0, hm]; lia) (show ((b.getD k 0).toNat : Int).fmod 128 < _ by rw [e0, hm]; lia)
        · show k + 1 ≤ b.length; lia
        · show szGo b = (szGo (b.drop (k + 1))).map fun x => (num + o.toNat % 128 * 2 ^ (7 * k) + 2 ^ (7 * (k + 1)) * x.1, x.2)
          rw [et, h3, Option.map_map]
          congr 1
          funext x
          show (num + 2 ^ (7 * k) * (o.toNat % 128 + 128 * x.1), x.2) = _
          rw [Nat.mul_add, ← Nat.mul_assoc, Nat.mul_comm _ (o.toNat % 128), Nat.mul_add 7 k 1, Nat.pow_add]
          simp only [Nat.add_assoc]
        · show b.length - (k + 1) < b.length - k; lia
        · show some (PV.int ((num : Int) + ((b.getD k 0).toNat : Int).fmod 128 * ((2 ^ (7 * k) : Nat) : Int))) = some (.int ((num + o.toNat % 128 * 2 ^ (7 * k) : Nat) : Int))
          rw [e0, hm, Int.natCast_add, Int.natCast_mul]
        · show some (PV.int (128 * ((2 ^ (7 * k) : Nat) : Int))) = some (.int ((2 ^ (7 * (k + 1)) : Nat) : Int))
          rw [Nat.mul_add, Nat.pow_add, Nat.mul_comm (2 ^ (7 * k)), Int.natCast_mul]; rfl
    · have h : (decide ((k : Int) < (b.length : Int)) && (decide (127 < ((b.getD k 0).toNat : Int)) && true)) = false := h
      refine Runs.ite (n := 9) (T0_ok hW) rfl (show b.length ≤ 16777216 by lia) (fun hh => ?_) fun hh => ?_
      · have hh : (k : Int) = (b.length : Int) := eq_of_beq hh
        have hk : b.drop k = [] := List.drop_eq_nil_of_le (by lia)
        refine Runs.ret (n := 9) (T0_ok hW) rfl trivial ?_
        unfold unp
        rw [h3, hk]; rfl
      · have hh : (k : Int) ≠ (b.length : Int) := fun q => by
          have hh : ((k : Int) == (b.length : Int)) = false := hh
          rw [q, beq_self_eq_true] at hh; cases hh
        rw [decide_eq_true (by lia), Bool.true_and, Bool.and_true, decide_eq_false_iff_not] at h
        cases e : b.drop k with
        | nil => have := List.drop_eq_nil_iff.mp e; lia
        | cons o t =>
          obtain ⟨e0, _⟩ := item0 e
          have et : b.drop (k + 1) = t := by rw [← List.drop_drop, e]; rfl
          rw [e0] at h
          rw [e, szGo_cons, if_pos (by lia)] at h3
          have h3 : szGo b = some (num + 2 ^ (7 * k) * o.toNat, t) := h3
          have hl : t.length = b.length - (k + 1) := by rw [← et, List.length_drop]
          have hun : unp b = if num + 2 ^ (7 * k) * o.toNat = t.length then some t else none := by unfold unp; rw [h3]
          have hx : (num : Int) + ((b.getD k 0).toNat : Int) * ((2 ^ (7 * k) : Nat) : Int) = ((num + 2 ^ (7 * k) * o.toNat : Nat) : Int) := by
            rw [e0, Int.natCast_add, Int.natCast_mul, Int.mul_comm]
          have cnd : (mulOk ((b.getD k 0).toNat : Int) ((2 ^ (7 * k) : Nat) : Int)).holds := mul_small (by lia) (by have := (b.getD k 0).toNat_lt; lia)
          have ci : 0 ≤ (k : Int) ∧ (k : Int) < (b.length : Int) ∧ b.length ≤ 1048576 := ⟨by lia, by lia, by lia⟩
          by_cases hN : num + 2 ^ (7 * k) * o.toNat = t.length
          · rw [hun, if_pos hN]
            refine G.let1 (n := 9) (T0_ok hW) rfl (by walk_at "cond"; exact ci; exact cnd) rfl rfl (G.retS (p := .bytes (cut b (some ((k : Int) + 1)) none)) (Snd.ite ((ev_ok (T0_ok hW) 9).2 _ _ _ _ _ rfl (by walk_at "cond"; exact hz')) (fun hb => (ev_ok (T0_ok hW) 9).1 _ _ _ _ _ rfl (by walk_at "cond"; exact hz')) fun hb => ?_) ?_)
            · have hb : ((num : Int) + ((b.getD k 0).toNat : Int) * ((2 ^ (7 * k) : Nat) : Int) == (b.length : Int) - (k : Int) - 1) = false := hb
              rw [hx, beq_eq_false_iff_ne] at hb
              lia
            · rw [cut_to_a b (by lia), show ((k : Int) + 1).toNat = k + 1 by lia, et]; rfl
          · rw [hun, if_neg hN]
            refine G.let1 (n := 9) (T0_ok hW) rfl (by walk_at "cond"; exact ci; exact cnd) rfl rfl (G.retS (p := .none) (Snd.ite ((ev_ok (T0_ok hW) 9).2 _ _ _ _ _ rfl (by walk_at "cond"; exact hz')) (fun hb => ?_) fun hb => (ev_ok (T0_ok hW) 9).1 _ _ _ _ _ rfl trivial) rfl)
            have hb : ((num : Int) + ((b.getD k 0).toNat : Int) * ((2 ^ (7 * k) : Nat) : Int) == (b.length : Int) - (k : Int) - 1) = true := hb
            rw [hx, beq_iff_eq] at hb
            lia
end

noncomputable def fi (s : UInt8) : Int := findB SG [s]
noncomputable def num5 (n : Int) : List UInt8 → Option Int
  | [] => some n
  | s :: r => if fi s < 0 then none else num5 (85 * n + fi s) r
noncomputable def dec5 : Nat → List UInt8 → Option (List UInt8)
  | 0, _ => some []
  | k + 1, l => match num5 0 (l.take 5) with
    | some n => if 4294967296 ≤ n then none else (dec5 k (l.drop 5)).map (be n ++ ·)
    | none => none
noncomputable def manyOf (c : UInt8) : Nat := if 65 ≤ c.toNat ∧ c.toNat ≤ 90 then c.toNat - 64 else if 97 ≤ c.toNat ∧ c.toNat ≤ 122 then c.toNat - 70 else 0
/-- a row's octets -/
noncomputable def partOf : List UInt8 → Option (List UInt8)
  | [] => none
  | c :: r => if manyOf c = 0 ∨ r.length ≠ 5 * ((manyOf c + 3) / 4) then none else (dec5 ((manyOf c + 3) / 4) r).map (·.take (manyOf c))
noncomputable def enc4 : Nat → List UInt8 → List UInt8
  | 0, _ => []
  | k + 1, l => five (valAt 0 (pad4 (l.take 4))) ++ enc4 k (l.drop 4)
noncomputable def rowOf (p : List UInt8) : List UInt8 := LT.getD (p.length - 1) 0 :: enc4 ((p.length + 3) / 4) p
noncomputable def spPart : Spec := tB fun b => tE (some (optB (partOf b), some (b.length ≤ 65536)))
noncomputable def spRow : Spec := tB fun p => tE (some (.bytes (rowOf p ++ [10]), some (1 ≤ p.length ∧ p.length ≤ 52)))
noncomputable def resRow : List PV → Out
  | [.bytes b] => if (partOf b).isSome = true then .ret (.bytes ((partOf b).getD [])) else .exc 81
  | _ => .exc 0
noncomputable def domRow (ps : List PV) : Prop := ∃ b, ps = [.bytes b] ∧ b.length ≤ 65536
noncomputable def spOctRow : Spec := tB fun b => tE (some (.bytes ((partOf b).getD []), some ((partOf b).isSome = true ∧ b.length ≤ 65536)))
theorem one_at {b : List UInt8} {s : UInt8} {i : Nat} (h : i < b.length) : (b.toArray.extract i (i + 1) == #[s]) = (b.getD i 0 == s) := by
  have e : b.toArray.extract i (i + 1) = #[b.getD i 0] := by
    rw [List.getD_eq_getElem?_getD, List.getElem?_eq_getElem h]
    apply Array.ext
    · simp; lia
    · intro j h1 h2
      have : j = 0 := by simp at h2; lia
      subst this
      simp
  rw [e, Bool.eq_iff_iff, beq_iff_eq, beq_iff_eq]
  exact ⟨fun q => by injection q with q; injection q, fun q => by rw [q]⟩
theorem find_congr {α : Type} {p q : α → Bool} : ∀ {l : List α}, (∀ x ∈ l, p x = q x) → l.find? p = l.find? q
  | [], _ => rfl
  | x :: l, h => by
    rw [List.find?_cons, List.find?_cons, h x (.head _), find_congr fun y hy => h y (.tail _ hy)]
/-- the place of one octet -/
noncomputable def atB (b : List UInt8) (s : UInt8) : Int := match (List.range b.length).find? fun i => b.getD i 0 == s with
  | some i => (i : Int)
  | none => -1
theorem findB_one {b : List UInt8} {s : UInt8} (h : 1 ≤ b.length) : findB b [s] = atB b s := by
  unfold findB findO atB
  rw [if_neg (by show ¬ b.length < 1; lia)]
  unfold Builtin.Bytes.find?
  have e : (List.range (b.length + 1 - (0 + ([s] : List UInt8).toArray.size))).map (· + 0) = List.range b.length := by
    rw [show b.length + 1 - (0 + ([s] : List UInt8).toArray.size) = b.length from by show b.length + 1 - (0 + 1) = _; lia]
    simp
  have e2 : (List.range b.length).find? (fun i => b.toArray.extract i (i + 1) == #[s]) = (List.range b.length).find? fun i => b.getD i 0 == s := find_congr fun i hi => one_at (List.mem_range.mp hi)
  rw [e]
  show (match (List.range b.length).find? (fun i => b.toArray.extract i (i + 1) == #[s]) with | some i => (i : Int) | none => -1) = _
  rw [e2]
theorem many_at : ∀ n : Nat, n < 256 → atB LT n.toUInt8 + 1 = (if 65 ≤ n.toUInt8.toNat ∧ n.toUInt8.toNat ≤ 90 then n.toUInt8.toNat - 64 else if 97 ≤ n.toUInt8.toNat ∧ n.toUInt8.toNat ≤ 122 then n.toUInt8.toNat - 70 else 0 : Nat) := by decide +kernel
theorem at_range {b : List UInt8} {s : UInt8} : -1 ≤ atB b s ∧ atB b s < b.length := by
  unfold atB
  split
  · rename_i i h
    have := List.mem_range.mp (List.mem_of_find?_eq_some h)
    lia
  · lia
theorem sg_at : ∀ n : Nat, n < 85 → atB SG (SG.getD n 0) = (n : Int) := by decide +kernel
theorem LT_len' : LT.length = 52 := by decide +kernel
theorem SG_len' : SG.length = 85 := by decide +kernel
theorem many_eq (c : UInt8) : findB LT [c] + 1 = (manyOf c : Int) := by
  rw [findB_one (by rw [LT_len']; decide)]
  have := many_at c.toNat c.toNat_lt
  rw [ofU8] at this
  exact this
theorem many_nil : findB LT [] = 0 := by decide +kernel
theorem fi_range (s : UInt8) : -1 ≤ fi s ∧ fi s < 85 := by
  unfold fi
  rw [findB_one (by rw [SG_len']; decide)]
  have := at_range (b := SG) (s := s)
  rw [SG_len'] at this
  exact this
theorem num5_cons {n : Int} {s : UInt8} {r : List UInt8} : num5 n (s :: r) = if fi s < 0 then none else num5 (85 * n + fi s) r := rfl
theorem dec5_succ {k : Nat} {l : List UInt8} : dec5 (k + 1) l = match num5 0 (l.take 5) with
    | some n => if 4294967296 ≤ n then none else (dec5 k (l.drop 5)).map (be n ++ ·)
    | none => none := rfl

section
variable {X : Exc} {W : Wd} {lv : Nat} {P : Params} {scope : Scope} {cel loc : Loc} {own : List Str} {rest : List Stmt} {K : Out → Prop}
theorem partOf_cons {c : UInt8} {r : List UInt8} : partOf (c :: r) = if manyOf c = 0 ∨ r.length ≠ 5 * ((manyOf c + 3) / 4) then none else (dec5 ((manyOf c + 3) / 4) r).map (·.take (manyOf c)) := rfl
theorem map_nil_app {α : Type} (o : Option (List α)) : o.map (fun x => [] ++ x) = o := by cases o <;> rfl
theorem be_ints {n : Int} (h0 : 0 ≤ n) (h1 : n < 4294967296) : be n = [n.fdiv 16777216, (n.fdiv 65536).fmod 256, (n.fdiv 256).fmod 256, n.fmod 256].map (fun n => n.toNat.toUInt8) := by
  rw [Int.fdiv_eq_ediv_of_nonneg _ (by decide), Int.fdiv_eq_ediv_of_nonneg _ (by decide), Int.fdiv_eq_ediv_of_nonneg _ (by decide), Int.fmod_eq_emod_of_nonneg _ (by decide), Int.fmod_eq_emod_of_nonneg _ (by decide), Int.fmod_eq_emod_of_nonneg _ (by decide)]
  unfold be
  rw [show n / 16777216 % 256 = n / 16777216 by lia]; rfl
theorem be_range {n : Int} (h0 : 0 ≤ n) (h1 : n < 4294967296) : ∀ x ∈ [n.fdiv 16777216, (n.fdiv 65536).fmod 256, (n.fdiv 256).fmod 256, n.fmod 256], 0 ≤ x ∧ x < 256 := by
  rw [Int.fdiv_eq_ediv_of_nonneg _ (by decide), Int.fdiv_eq_ediv_of_nonneg _ (by decide), Int.fdiv_eq_ediv_of_nonneg _ (by decide), Int.fmod_eq_emod_of_nonneg _ (by decide), Int.fmod_eq_emod_of_nonneg _ (by decide), Int.fmod_eq_emod_of_nonneg _ (by decide)]
  intro x hx
  simp only [List.mem_cons, List.not_mem_nil, or_false] at hx
  lia
theorem one_byte {s : UInt8} : [((s.toNat : Int)).toNat.toUInt8] = [s] := by rw [ofU8']
theorem byte_ok {s : UInt8} : ∀ k ∈ [(s.toNat : Int)], 0 ≤ k ∧ k < 256 := fun k hk => by
  cases List.mem_singleton.mp hk
  have := s.toNat_lt
  lia
theorem w_l_part (hW : W.K = KK P) : CallOk W (lv + 1) (.ref 261) spPart := by
  refine fn_ok (D_l_part hW) (by decide) fun ps r c e hc => ?_
  obtain ⟨b, ps, rfl, e1⟩ := tB_use e
  obtain ⟨rfl, e2⟩ := tE_use e1
  clear e e1
  · cases e2
    have hz : b.length ≤ 65536 := hc
    have hz' : b.length ≤ 16777216 := by lia
    refine ⟨rfl, ?_⟩
    match b, hz, hz' with
    | [], hz, hz' =>
      refine G.let1 (n := 9) (p := .int (findB LT (cut [] none (some 1)) + 1)) (T0_ok hW) rfl (by walk_at "cond"; exact hz') rfl rfl ?_
      rw [show findB LT (cut [] none (some 1)) + 1 = 1 from (by rw [show cut ([] : List UInt8) none (some 1) = [] from rfl, many_nil]; rfl)]
      refine Runs.ite (n := 9) (T0_ok hW) rfl (by walk_at "cond"; exact hz') (fun _ => ?_) fun h => ?_
      · exact Runs.ret (n := 9) (T0_ok hW) rfl trivial rfl
      · exact absurd h (by show ¬ (((1 : Int) == 0) || ((0 : Int) != 1 + 5 * ((1 + 3 : Int).fdiv 4)) || false) = false; decide)
    | c :: r, hz, hz' =>
      have hl : r.length ≤ 65536 := by simp at hz; lia
      refine G.let1 (n := 9) (p := .int (findB LT (cut (c :: r) none (some 1)) + 1)) (T0_ok hW) rfl (by walk_at "cond"; exact hz') rfl rfl ?_
      rw [show findB LT (cut (c :: r) none (some 1)) + 1 = (manyOf c : Int) from (by rw [cut_to_n _ (by decide)]; exact many_eq c)]
      have hk : ((manyOf c : Int) + 3).fdiv 4 = (((manyOf c + 3) / 4 : Nat) : Int) := by rw [Int.fdiv_eq_ediv_of_nonneg _ (by decide)]; lia
      refine Runs.ite (n := 9) (T0_ok hW) rfl (by walk_at "cond"; exact hz') (fun h => ?_) fun h => ?_
      · have h : (((manyOf c : Int) == 0) || ((((r.length + 1 : Nat) : Int) != 1 + 5 * ((manyOf c : Int) + 3).fdiv 4) || false)) = true := h
        rw [hk, Bool.or_false, Bool.or_eq_true, beq_iff_eq, bne_iff_ne] at h
        refine Runs.ret (n := 9) (T0_ok hW) rfl trivial ?_
        rw [partOf_cons, if_pos (by lia)]; rfl
      · have h : (((manyOf c : Int) == 0) || ((((r.length + 1 : Nat) : Int) != 1 + 5 * ((manyOf c : Int) + 3).fdiv 4) || false)) = false := h
        rw [hk, Bool.or_false, Bool.or_eq_false_iff, beq_eq_false_iff_ne, bne_eq_false_iff_eq] at h
        have hp : partOf (c :: r) = (dec5 ((manyOf c + 3) / 4) r).map (·.take (manyOf c)) := by
          rw [partOf_cons, if_neg (by lia)]
        rw [hp]
        have hr : r.length = 5 * ((manyOf c + 3) / 4) := by lia
        generalize hKe : (manyOf c + 3) / 4 = k at *
        refine G.letL (n := 9) (T0_ok hW) rfl trivial rfl (by show 0 ≤ 16777216; decide) rfl ?_
        have hrl : ((rngL 1 ((r.length + 1 : Nat) : Int) 5).map PV.int).length = k := by rw [List.length_map, rngL_len (by decide)]; lia
        refine G.for_ (n := 9) (σ := List Int) (T0_ok hW) (fun F => [("bare", .bytes (c :: r)), ("many", .int (manyOf c : Int)), ("found", .il F)]) [] (fun i F => dec5 k r = (dec5 (k - i) (r.drop (5 * i))).map (F.map (fun n => n.toNat.toUInt8) ++ ·) ∧ (∀ x ∈ F, 0 ≤ x ∧ x < 256) ∧ F.length = 4 * i ∧ i ≤ k) [] rfl ?_ rfl ?_ rfl rfl (.inr rfl)
          (.cons rfl (.cons rfl (.cons rfl .nil))) (fun _ h => nomatch h) ⟨?_, (fun _ h => nomatch h), rfl, Nat.zero_le _⟩ (fun i q F hq hJ => ?_) fun F hJ => ?_
        · walk_at "cond"
          · exact hz'
          · exact ⟨by decide, by decide, by show (((r.length + 1 : Nat) : Int) - 1).natAbs < _; lia⟩
        · show Builtin.Range.small 1 ((r.length + 1 : Nat) : Int) 5 = true
          exact small_range (by decide) (by decide) (by decide) (by decide) (by lia) (by lia)
        · exact (map_nil_app _).symm
        · obtain ⟨rfl, hi⟩ := rngL_get hq
          have hi : i < k := by
            have := hi
            rw [← List.length_map (f := PV.int)] at this
            exact hrl ▸ this
          obtain ⟨g1, g2, g3, g4⟩ := hJ
          have ec : cut (c :: r) (some (1 + (i : Int) * 5)) (some (1 + (i : Int) * 5 + 5)) = (r.drop (5 * i)).take 5 := by
            rw [cut_to_nn _ (by lia) (by lia), show (1 + (i : Int) * 5).toNat = 5 * i + 1 by lia, List.drop_succ_cons, show (1 + (i : Int) * 5 + 5).toNat - (5 * i + 1) = 5 by lia]
          generalize hch : (r.drop (5 * i)).take 5 = ch at ec
          have hd : dec5 (k - i) (r.drop (5 * i)) = match num5 0 ch with
              | some n => if 4294967296 ≤ n then none else (dec5 (k - (i + 1)) (r.drop (5 * (i + 1)))).map (be n ++ ·)
              | none => none := by
            rw [show k - i = (k - (i + 1)) + 1 by lia, dec5_succ, hch, List.drop_drop, show 5 * i + 5 = 5 * (i + 1) by lia]
            all_goals rfl
          rw [hd] at g1
          clear hd
          refine G.let1 (n := 9) (T0_ok hW) rfl trivial rfl rfl ?_
          refine G.for_ (n := 9) (σ := Int) (T0_ok hW) (fun n => [("number", .int n), ("bare", .bytes (c :: r)), ("many", .int (manyOf c : Int)), ("found", .il F)]) [] (fun j n => num5 0 ch = num5 n (ch.drop j) ∧ 0 ≤ n) 0 rfl (by walk_at "cond"; exact hz') rfl trivial rfl rfl (.inl rfl)
            (.cons rfl (.cons rfl (.cons rfl (.cons rfl .nil)))) (fun _ h => nomatch h) ⟨rfl, by decide⟩ (fun j q n hq hJ => ?_) fun n hJ => ?_
          · have hq : (ch.map bytePV)[j]? = some q := by rw [← ec]; exact hq
            obtain ⟨_, rfl, o, t, e1, rfl, e2⟩ := bytes_it hq
            obtain ⟨k1, k2⟩ := hJ
            rw [e1, num5_cons] at k1
            refine G.let1 (n := 9) (p := .int (findB SG [((o.toNat : Int)).toNat.toUInt8])) (T0_ok hW) rfl (by walk_at "cond"; exact (show 1 ≤ 16777216 by decide); exact ⟨byte_ok, (show 1 ≤ 16777216 by decide)⟩) rfl rfl ?_
            rw [one_byte]
            have hf := fi_range o
            refine Runs.ite (n := 9) (T0_ok hW) rfl trivial (fun h => ?_) fun h => ?_
            · have h : fi o < 0 := of_decide_eq_true h
              rw [if_pos h] at k1
              rw [k1] at g1
              refine Runs.ret (n := 9) (T0_ok hW) rfl trivial ?_
              rw [g1]; rfl
            · have h : ¬ fi o < 0 := of_decide_eq_false h
              rw [if_neg h] at k1
              refine G.let1 (n := 9) (T0_ok hW) rfl trivial rfl rfl (Runs.nil ⟨85 * n + fi o, ⟨by rw [k1, e2], by lia⟩, .cons rfl (.cons rfl (.cons rfl (.cons rfl .nil))), fun _ h => nomatch h⟩)
          · obtain ⟨k1, k2⟩ := hJ
            have k1 : num5 0 ch = num5 n (ch.drop ((cut (c :: r) (some (1 + (i : Int) * 5)) (some (1 + (i : Int) * 5 + 5))).map bytePV).length) := k1
            rw [ec, List.length_map, List.drop_length] at k1
            rw [k1] at g1
            refine Runs.ite (n := 9) (T0_ok hW) rfl trivial (fun h => ?_) fun h => ?_
            · have h : 4294967296 ≤ n := of_decide_eq_true h
              refine Runs.ret (n := 9) (T0_ok hW) rfl trivial ?_
              rw [g1]
              show _ = Out.ret (optB (Option.map _ (Option.map _ (if 4294967296 ≤ n then none else _))))
              rw [if_pos h]; rfl
            · have h : ¬ 4294967296 ≤ n := of_decide_eq_false h
              have g1 : dec5 k r = ((if 4294967296 ≤ n then none else (dec5 (k - (i + 1)) (r.drop (5 * (i + 1)))).map (be n ++ ·))).map (F.map (fun n => n.toNat.toUInt8) ++ ·) := g1
              rw [if_neg h] at g1
              refine G.let1 (n := 9) (p := .il (F ++ [n.fdiv 16777216, (n.fdiv 65536).fmod 256, (n.fdiv 256).fmod 256, n.fmod 256])) (T0_ok hW) rfl (by walk_at "cond"; exact (show 4 ≤ 16777216 by decide); exact (show F.length + 4 ≤ 16777216 by lia)) rfl rfl (Runs.nil ⟨_, ⟨?_, ?_, ?_, hi⟩, .cons rfl (.cons rfl (.cons rfl .nil)), fun _ h => nomatch h⟩)
              · rw [g1, Option.map_map]
                congr 1
                funext x
                show F.map (fun n => n.toNat.toUInt8) ++ (be n ++ x) = (F ++ [n.fdiv 16777216, (n.fdiv 65536).fmod 256, (n.fdiv 256).fmod 256, n.fmod 256]).map (fun n => n.toNat.toUInt8) ++ x
                rw [List.map_append, List.append_assoc, ← be_ints k2 (by lia)]
              · intro x hx
                rcases List.mem_append.mp hx with hx | hx
                · exact g2 x hx
                · exact be_range k2 (by lia) x hx
              · show (F ++ [_, _, _, _]).length = 4 * (i + 1)
                rw [List.length_append]; show F.length + 4 = _; lia
        · obtain ⟨g1, g2, g3, g4⟩ := hJ
          have g1 : dec5 k r = (dec5 (k - ((rngL 1 ((r.length + 1 : Nat) : Int) 5).map PV.int).length) (r.drop (5 * ((rngL 1 ((r.length + 1 : Nat) : Int) 5).map PV.int).length))).map (F.map (fun n => n.toNat.toUInt8) ++ ·) := g1
          rw [hrl, Nat.sub_self] at g1
          rw [g1]
          refine Runs.ret (n := 9) (T0_ok hW) rfl ?_ ?_
          · walk_at "cond"
            · show F.length ≤ 16777216; lia
            · exact ⟨fun x hx => g2 x (List.mem_of_mem_take hx), Nat.le_trans (by show (F.take _).length ≤ F.length; rw [List.length_take]; lia) (by lia)⟩
          · show Out.ret (.bytes ((cut F none (some (manyOf c : Int))).map fun n => n.toNat.toUInt8)) = Out.ret (optB (Option.map (·.take (manyOf c)) (some (F.map (fun n => n.toNat.toUInt8) ++ []))))
            rw [cut_n, List.append_nil, List.map_take]; rfl
end

theorem many_val (c : UInt8) : (bif decide ((65 : Int) ≤ (c.toNat : Int)) && decide ((c.toNat : Int) ≤ 90) then (c.toNat : Int) - 64 else bif decide ((97 : Int) ≤ (c.toNat : Int)) && decide ((c.toNat : Int) ≤ 122) then (c.toNat : Int) - 70 else 0) = (manyOf c : Int) := by
  unfold manyOf
  by_cases h : 65 ≤ c.toNat ∧ c.toNat ≤ 90
  · rw [if_pos h, decide_eq_true (by lia), decide_eq_true (by lia)]
    show (c.toNat : Int) - 64 = _
    lia
  · rw [if_neg h]
    have h1 : (decide ((65 : Int) ≤ (c.toNat : Int)) && decide ((c.toNat : Int) ≤ 90)) = false := by
      rw [Bool.and_eq_false_iff, decide_eq_false_iff_not, decide_eq_false_iff_not]; lia
    rw [h1]
    by_cases h2 : 97 ≤ c.toNat ∧ c.toNat ≤ 122
    · rw [if_pos h2, decide_eq_true (by lia), decide_eq_true (by lia)]
      show (c.toNat : Int) - 70 = _
      lia
    · rw [if_neg h2]
      have h3 : (decide ((97 : Int) ≤ (c.toNat : Int)) && decide ((c.toNat : Int) ≤ 122)) = false := by
        rw [Bool.and_eq_false_iff, decide_eq_false_iff_not, decide_eq_false_iff_not]; lia
      rw [h3]; rfl
theorem mul_small_r {a b : Int} (h0 : 0 ≤ b) (h1 : b < 18446744073709551616) : (mulOk a b).holds := mulOk_hold (IntMulOk.of_right (intBits_le_64 (by lia) (by lia)))
theorem pad_take {a : List UInt8} (h1 : 1 ≤ a.length) (h2 : a.length ≤ 4) : (a ++ List.replicate (3 : Int).toNat 0).take (4 : Int).toNat = pad4 a := by
  unfold pad4
  match a, h1, h2 with
  | [_], _, _ => rfl
  | [_, _], _, _ => rfl
  | [_, _, _], _, _ => rfl
  | [_, _, _, _], _, _ => rfl
theorem head_val : ∀ n : Nat, n < 53 → 1 ≤ n → (bif decide ((n : Int) ≤ 26) then 64 + (n : Int) else 70 + (n : Int)).toNat.toUInt8 = LT.getD (n - 1) 0 := by decide +kernel
theorem enc4_succ {k : Nat} {l : List UInt8} : enc4 (k + 1) l = five (valAt 0 (pad4 (l.take 4))) ++ enc4 k (l.drop 4) := rfl
theorem five_len {k : Nat} : ∀ {n : Int} {f : List UInt8}, (fiveGo k n f).length = k + f.length := by
  induction k with
  | zero => intro n f; rw [Nat.zero_add]; rfl
  | succ k ih => intro n f; show (fiveGo k (n / 85) (sg (n % 85) :: f)).length = _; rw [ih, List.length_cons]; lia
section
variable {X : Exc} {W : Wd} {lv : Nat} {P : Params} {scope : Scope} {cel loc : Loc} {own : List Str} {rest : List Stmt} {K : Out → Prop}
theorem w_octets_of_row (hW : W.K = KK P) : CallXOk W (lv + 3) (.ref 168) domRow (fun ps o => o = resRow ps) := by
  refine fnX_ok (D_octets_of_row_85 hW) (by decide) fun ps ⟨b, hp, hz⟩ => ?_
  subst hp
  refine ⟨rfl, fun l o h => ite_next h, ?_⟩
  have hz' : b.length ≤ 16777216 := by lia
  have hT := (T0_ok (lv := lv + 2) hW).fn (N_be32 hW) (K_be32 hW) (w_be32 (lv := lv) hW)
  show Runs _ _ _ _ _ _ _ _ (fun o => o = if (partOf b).isSome = true then .ret (.bytes ((partOf b).getD [])) else .exc 81)
  match b, hz, hz' with
  | [], hz, hz' =>
    refine G.let1 (n := 9) (p := .int 0) hT rfl (by walk_at "cond"; exact ⟨by decide, by simp_all, by simp⟩) rfl rfl ?_
    refine G.let1 (n := 9) (p := .int 0) hT rfl (by walk_at "cond") rfl rfl ?_
    refine Runs.ite (n := 9) hT rfl (by walk_at "cond"; exact hz') (fun _ => ?_) fun h => ?_
    · exact Runs.raise (n := 9) hT (X_patch hW) rfl rfl trivial rfl
    · exact absurd h (by show ¬ (((0 : Int) == 0) || ((((0 : Int) != 1 + ((0 + 3 : Int).fdiv 4) * 5) || false))) = false; decide)
  | c :: r, hz, hz' =>
    have hl : r.length ≤ 65536 := by simp at hz; lia
    refine G.let1 (n := 9) (p := .int (c.toNat : Int)) hT rfl (by walk_at "cond"; exact ⟨by decide, (by show (0 : Int) < ((r.length + 1 : Nat) : Int); lia), (by show r.length + 1 ≤ _; lia)⟩) rfl rfl ?_
    refine G.let1 (n := 9) (p := .int (bif decide ((65 : Int) ≤ (c.toNat : Int)) && decide ((c.toNat : Int) ≤ 90) then (c.toNat : Int) - 64 else bif decide ((97 : Int) ≤ (c.toNat : Int)) && decide ((c.toNat : Int) ≤ 122) then (c.toNat : Int) - 70 else 0)) hT rfl (by walk_at "cond") rfl rfl ?_
    rw [many_val]
    have hk : ((manyOf c : Int) + 3).fdiv 4 = (((manyOf c + 3) / 4 : Nat) : Int) := by rw [Int.fdiv_eq_ediv_of_nonneg _ (by decide)]; lia
    refine Runs.ite (n := 9) hT rfl (by walk_at "cond"; exact hz'; exact mul_small_r (by decide) (by decide)) (fun h => ?_) fun h => ?_
    · have h : (((manyOf c : Int) == 0) || ((((r.length + 1 : Nat) : Int) != 1 + ((manyOf c : Int) + 3).fdiv 4 * 5) || false)) = true := h
      rw [hk, Bool.or_false, Bool.or_eq_true, beq_iff_eq, bne_iff_ne] at h
      have hp : partOf (c :: r) = none := by rw [partOf_cons, if_pos (by lia)]
      rw [hp]
      exact Runs.raise (n := 9) hT (X_patch hW) rfl rfl trivial rfl
    · have h : (((manyOf c : Int) == 0) || ((((r.length + 1 : Nat) : Int) != 1 + ((manyOf c : Int) + 3).fdiv 4 * 5) || false)) = false := h
      rw [hk, Bool.or_false, Bool.or_eq_false_iff, beq_eq_false_iff_ne, bne_eq_false_iff_eq] at h
      have hp : partOf (c :: r) = (dec5 ((manyOf c + 3) / 4) r).map (·.take (manyOf c)) := by rw [partOf_cons, if_neg (by lia)]
      rw [hp]
      have hr : r.length = 5 * ((manyOf c + 3) / 4) := by lia
      generalize hKe : (manyOf c + 3) / 4 = k at *
      refine Runs.step (assignF_ok (n := 9) (sp := sBa) hT (nm_bi hW (by kernel_rfl) (by kernel_rfl) (by kernel_rfl)) keeps_type ba_fr rfl rfl rfl trivial rfl trivial rfl rfl) ?_
      have hrl : ((rngL 1 ((r.length + 1 : Nat) : Int) 5).map PV.int).length = k := by rw [List.length_map, rngL_len (by decide)]; lia
      refine G.for_ (n := 9) (σ := List UInt8) hT (fun F => [("row", .bytes (c :: r)), ("many", .int (manyOf c : Int)), ("found", .ba F)]) ["found"] (fun i F => dec5 k r = (dec5 (k - i) (r.drop (5 * i))).map (F ++ ·) ∧ F.length = 4 * i ∧ i ≤ k) [] rfl ?_ rfl ?_ rfl rfl (.inr rfl)
        (.cons rfl (.cons rfl (.cons rfl .nil))) (fun _ h => h) ⟨?_, rfl, Nat.zero_le _⟩ (fun i q F hq hJ => ?_) fun F hJ => ?_
      · walk_at "cond"
        · exact hz'
        · exact ⟨by decide, by decide, by show (((r.length + 1 : Nat) : Int) - 1).natAbs < _; lia⟩
      · show Builtin.Range.small 1 ((r.length + 1 : Nat) : Int) 5 = true
        exact small_range (by decide) (by decide) (by decide) (by decide) (by lia) (by lia)
      · exact (map_nil_app _).symm
      · obtain ⟨rfl, hi⟩ := rngL_get hq
        have hi : i < k := by
          have := hi
          rw [← List.length_map (f := PV.int)] at this
          exact hrl ▸ this
        obtain ⟨g1, g3, g4⟩ := hJ
        have ec : cut (c :: r) (some (1 + (i : Int) * 5)) (some (1 + (i : Int) * 5 + 5)) = (r.drop (5 * i)).take 5 := by
          rw [cut_to_nn _ (by lia) (by lia), show (1 + (i : Int) * 5).toNat = 5 * i + 1 by lia, List.drop_succ_cons, show (1 + (i : Int) * 5 + 5).toNat - (5 * i + 1) = 5 by lia]
        generalize hch : (r.drop (5 * i)).take 5 = ch at ec
        have hd : dec5 (k - i) (r.drop (5 * i)) = match num5 0 ch with
            | some n => if 4294967296 ≤ n then none else (dec5 (k - (i + 1)) (r.drop (5 * (i + 1)))).map (be n ++ ·)
            | none => none := by
          rw [show k - i = (k - (i + 1)) + 1 by lia, dec5_succ, hch, List.drop_drop, show 5 * i + 5 = 5 * (i + 1) by lia]
          all_goals rfl
        rw [hd] at g1
        clear hd
        refine G.let1 (n := 9) hT rfl trivial rfl rfl ?_
        refine G.for_ (n := 9) (σ := Int) hT (fun n => [("number", .int n), ("row", .bytes (c :: r)), ("many", .int (manyOf c : Int)), ("found", .ba F)]) ["found"] (fun j n => num5 0 ch = num5 n (ch.drop j) ∧ 0 ≤ n) 0 rfl (by walk_at "cond"; exact hz') rfl trivial rfl rfl (.inr rfl)
          (.cons rfl (.cons rfl (.cons rfl (.cons rfl .nil)))) (fun _ h => h) ⟨rfl, by decide⟩ (fun j q n hq hJ => ?_) fun n hJ => ?_
        · have hq : (ch.map bytePV)[j]? = some q := by rw [← ec]; exact hq
          obtain ⟨_, rfl, o, t, e1, rfl, e2⟩ := bytes_it hq
          obtain ⟨k1, k2⟩ := hJ
          rw [e1, num5_cons] at k1
          refine G.let1 (n := 9) (p := .int (findB SG [((o.toNat : Int)).toNat.toUInt8])) hT rfl (by walk_at "cond"; exact (show 1 ≤ 16777216 by decide); exact ⟨byte_ok, (show 1 ≤ 16777216 by decide)⟩) rfl rfl ?_
          rw [one_byte]
          have hf := fi_range o
          refine Runs.ite (n := 9) hT rfl trivial (fun h => ?_) fun h => ?_
          · have h : fi o < 0 := of_decide_eq_true h
            rw [if_pos h] at k1
            rw [k1] at g1
            rw [g1]
            exact Runs.raise (n := 9) hT (X_patch hW) rfl rfl trivial rfl
          · have h : ¬ fi o < 0 := of_decide_eq_false h
            rw [if_neg h] at k1
            refine G.let1 (n := 9) hT rfl (by walk_at "cond"; exact mul_small_r (by decide) (by decide)) rfl rfl (Runs.nil ⟨85 * n + fi o, ⟨by rw [k1, e2], by lia⟩, .cons ?_ (.cons rfl (.cons rfl (.cons rfl .nil))), fun _ h => h⟩)
            show some (PV.int (n * 85 + fi o)) = some (.int (85 * n + fi o))
            rw [Int.mul_comm]
        · obtain ⟨k1, k2⟩ := hJ
          have k1 : num5 0 ch = num5 n (ch.drop ((cut (c :: r) (some (1 + (i : Int) * 5)) (some (1 + (i : Int) * 5 + 5))).map bytePV).length) := k1
          rw [ec, List.length_map, List.drop_length] at k1
          rw [k1] at g1
          have g1 : dec5 k r = ((if 4294967296 ≤ n then none else (dec5 (k - (i + 1)) (r.drop (5 * (i + 1)))).map (be n ++ ·))).map (F ++ ·) := g1
          refine Runs.ite (n := 9) hT rfl (by walk_at "cond"; exact ⟨by decide, by decide, by decide⟩) (fun h => ?_) fun h => ?_
          · have h : (4294967296 : Int) ≤ n := of_decide_eq_true h
            rw [if_pos h] at g1
            rw [g1]
            exact Runs.raise (n := 9) hT (X_patch hW) rfl rfl trivial rfl
          · have h : ¬ (4294967296 : Int) ≤ n := of_decide_eq_false h
            rw [if_neg h] at g1
            have h : n < 4294967296 := Int.not_le.mp h
            refine Runs.step (augBa (n := 9) hT rfl (.head _) rfl rfl ⟨k2, h⟩ (by show F.length + 4 ≤ _; lia) rfl rfl) ?_
            refine Runs.nil ⟨F ++ be n, ⟨?_, ?_, hi⟩, .cons rfl (.cons rfl (.cons rfl .nil)), fun _ h => h⟩
            · rw [g1, Option.map_map]
              congr 1
              funext x
              exact (List.append_assoc _ _ _).symm
            · rw [List.length_append]; show F.length + 4 = _; lia
      · obtain ⟨g1, g3, g4⟩ := hJ
        have g1 : dec5 k r = (dec5 (k - ((rngL 1 ((r.length + 1 : Nat) : Int) 5).map PV.int).length) (r.drop (5 * ((rngL 1 ((r.length + 1 : Nat) : Int) 5).map PV.int).length))).map (F ++ ·) := g1
        rw [hrl, Nat.sub_self] at g1
        rw [g1]
        refine Runs.ret (n := 9) hT rfl ?_ ?_
        · walk_at "cond"
          · show F.length ≤ 16777216; lia
          · exact Nat.le_trans (cut_le F _ _) (by lia)
        · show Out.ret (.bytes (cut F none (some (manyOf c : Int)))) = Out.ret (.bytes ((F ++ []).take (manyOf c)))
          rw [cut_n, List.append_nil]
theorem w_octets_of_row' (hW : W.K = KK P) : CallOk W (lv + 3) (.ref 168) spOctRow := (w_octets_of_row hW).ret fun ps p c e hc => by
  obtain ⟨b, ps, rfl, e1⟩ := tB_use e
  obtain ⟨rfl, e2⟩ := tE_use e1
  clear e e1
  · cases e2
    obtain ⟨h1, h2⟩ := (show _ ∧ _ from hc)
    exact ⟨⟨b, rfl, h2⟩, fun o ho => ho.trans (if_pos h1)⟩
theorem w_row_85 (hW : W.K = KK P) : CallOk W (lv + 3) (.ref 161) spRow := by
  refine fn_ok (D_row_85 hW) (by decide) fun ps r c e hc => ?_
  obtain ⟨p, ps, rfl, e1⟩ := tB_use e
  obtain ⟨rfl, e2⟩ := tE_use e1
  clear e e1
  · cases e2
    obtain ⟨hz1, hz2⟩ := (show _ ∧ _ from hc)
    have hz : p.length ≤ 16777216 := by lia
    refine ⟨rfl, ?_⟩
    have hT := (T0_ok (lv := lv + 2) hW).fn (N_at_be32 hW) (K_at_be32 hW) (w_at32 (lv := lv) hW)
    generalize hK : (p.length + 3) / 4 = k at *
    refine Runs.step (assignF_ok (n := 9) (p := .ba [(bif decide ((p.length : Int) ≤ 26) then 64 + (p.length : Int) else 70 + (p.length : Int)).toNat.toUInt8]) (sp := sBa) hT (nm_bi hW (by kernel_rfl) (by kernel_rfl) (by kernel_rfl)) keeps_type ba_fr rfl rfl rfl ?_ rfl ?_ rfl rfl) ?_
    · walk_at "cond"
      · exact hz
      · exact hz
      · exact hz
      · show 1 ≤ 16777216; decide
    · show 0 ≤ (bif decide ((p.length : Int) ≤ 26) then 64 + (p.length : Int) else 70 + (p.length : Int)) ∧ (bif decide ((p.length : Int) ≤ 26) then 64 + (p.length : Int) else 70 + (p.length : Int)) < 256
      cases decide ((p.length : Int) ≤ 26)
      · show 0 ≤ 70 + (p.length : Int) ∧ 70 + (p.length : Int) < 256; lia
      · show 0 ≤ 64 + (p.length : Int) ∧ 64 + (p.length : Int) < 256; lia
    rw [head_val p.length (by lia) (by lia)]
    have hrl : ((rngL 0 (p.length : Int) 4).map PV.int).length = k := by rw [List.length_map, rngL_len (by decide)]; lia
    refine G.for_ (n := 9) (σ := List UInt8) hT (fun F => [("octets", .bytes p), ("found", .ba F)]) ["found"] (fun i F => F ++ enc4 (k - i) (p.drop (4 * i)) = rowOf p ∧ F.length = 1 + 5 * i ∧ i ≤ k) [LT.getD (p.length - 1) 0] rfl ?_ rfl ?_ rfl rfl (.inr rfl)
      (.cons rfl (.cons rfl .nil)) (fun _ h => h) ⟨?_, rfl, Nat.zero_le _⟩ (fun i q F hq hJ => ?_) fun F hJ => ?_
    · walk_at "cond"
      · exact hz
      · exact ⟨by decide, by decide, by show ((p.length : Int) - 0).natAbs < _; lia⟩
    · show Builtin.Range.small 0 (p.length : Int) 4 = true
      exact small_range (by decide) (by decide) (by decide) (by decide) (by lia) (by lia)
    · show [LT.getD (p.length - 1) 0] ++ enc4 k p = rowOf p
      rw [← hK]; rfl
    · obtain ⟨rfl, hi⟩ := rngL_get hq
      have hi : i < k := by
        have := hi
        rw [← List.length_map (f := PV.int)] at this
        exact hrl ▸ this
      obtain ⟨g1, g3, g4⟩ := hJ
      rw [show k - i = (k - (i + 1)) + 1 by lia, enc4_succ, List.drop_drop, show 4 * i + 4 = 4 * (i + 1) by lia] at g1
      have ec : cut (cut p (some (0 + (i : Int) * 4)) (some (0 + (i : Int) * 4 + 4)) ++ List.replicate (3 : Int).toNat 0) none (some 4) = pad4 ((p.drop (4 * i)).take 4) := by
        rw [cut_to_nn _ (by lia) (by lia), show (0 + (i : Int) * 4).toNat = 4 * i by lia, show (0 + (i : Int) * 4 + 4).toNat - (4 * i) = 4 by lia, cut_to_n _ (by decide)]
        exact pad_take (by rw [List.length_take, List.length_drop]; lia) (by rw [List.length_take]; lia)
      have el : (pad4 ((p.drop (4 * i)).take 4)).length = 4 := by unfold pad4; rw [List.length_append, List.length_replicate, List.length_take]; lia
      generalize hch : pad4 ((p.drop (4 * i)).take 4) = ch at *
      refine G.let1 (n := 9) (p := .int (valAt 0 (cut (cut p (some (0 + (i : Int) * 4)) (some (0 + (i : Int) * 4 + 4)) ++ List.replicate (3 : Int).toNat 0) none (some 4)))) hT rfl ?_ rfl rfl ?_
      · have hcl : (cut p (some (0 + (i : Int) * 4)) (some (0 + (i : Int) * 4 + 4))).length ≤ p.length := cut_le _ _ _
        walk_at "cond"
        · exact hz
        · exact (show (0 : Int) ≤ 3 ∧ (3 : Int) ≤ 1000000 by decide)
        · show (cut p (some (0 + (i : Int) * 4)) (some (0 + (i : Int) * 4 + 4))).length + (List.replicate (3 : Int).toNat (0 : UInt8)).length ≤ 16777216
          rw [List.length_replicate]; show _ + 3 ≤ _; lia
        · show (cut p (some (0 + (i : Int) * 4)) (some (0 + (i : Int) * 4 + 4)) ++ List.replicate (3 : Int).toNat (0 : UInt8)).length ≤ 16777216
          rw [List.length_append, List.length_replicate]; show _ + 3 ≤ _; lia
        · exact ⟨rfl, by rw [← ec] at el; exact el⟩
      rw [ec]
      refine G.letL (n := 9) hT rfl trivial rfl (by show 0 ≤ 16777216; decide) rfl ?_
      refine G.for_ (n := 9) (σ := Int × List Int) hT (fun y => [("octets", .bytes p), ("found", .ba F), ("number", .int y.1), ("signs", .il y.2)]) ["signs", "found"] (fun j y => five (valAt 0 ch) = fiveGo (5 - j) y.1 (y.2.map fun n => n.toNat.toUInt8).reverse ∧ (∀ x ∈ y.2, 0 ≤ x ∧ x < 256) ∧ y.2.length = j ∧ j ≤ 5) (valAt 0 ch, []) rfl trivial rfl (show Builtin.Range.small 0 5 1 = true by decide +kernel) rfl rfl (.inr rfl)
        (.cons rfl (.cons rfl (.cons rfl (.cons rfl .nil)))) (fun _ h => h) ⟨rfl, (fun _ h => nomatch h), rfl, by decide⟩ (fun j q y hq hJ => ?_) fun y hJ => ?_
      · obtain ⟨rfl, hj⟩ := rngL_get hq
        have hj : j < (rngL 0 5 1).length := hj
        rw [rng5] at hj
        have hj : j < 5 := hj
        obtain ⟨m, l⟩ := y
        obtain ⟨k1, k2, k3, _⟩ := hJ
        dsimp only at k1 k2 k3
        have m1 : 0 ≤ m.fmod 85 := Int.fmod_nonneg_of_pos _ (by decide)
        have m2 : m.fmod 85 < 85 := Int.fmod_lt_of_pos _ (by decide)
        refine Runs.step (append_ok (n := 9) hT rfl rfl rfl rfl (.head _) rfl rfl ?_ rfl ?_ rfl rfl) (Runs.step (augDiv (n := 9) hT rfl rfl rfl trivial (by decide) (by decide)) (Runs.nil ⟨(m / 85, l ++ [((sg (m % 85)).toNat : Int)]), ⟨?_, ?_, ?_, hj⟩, .cons rfl (.cons rfl (.cons ?_ (.cons ?_ .nil))), fun _ h => h⟩))
        · walk_at "cond"
          refine ⟨m1, ?_, ?_⟩
          · show m.fmod 85 < (SG.length : Int); rw [SG_len]; exact m2
          · show SG.length ≤ 1048576; rw [SG_len]; decide
        · show l.length ≤ 1000000; lia
        · show five (valAt 0 ch) = fiveGo (5 - (j + 1)) (m / 85) ((l ++ [((sg (m % 85)).toNat : Int)]).map fun n => n.toNat.toUInt8).reverse
          rw [k1, show 5 - j = (5 - (j + 1)) + 1 by lia, List.map_append, List.reverse_append, show [((sg (m % 85)).toNat : Int)].map (fun n => n.toNat.toUInt8) = [sg (m % 85)] from one_byte]
          rfl
        · intro x hx
          rcases List.mem_append.mp hx with hx | hx
          · exact k2 x hx
          · exact byte_ok x hx
        · show (l ++ [((sg (m % 85)).toNat : Int)]).length = j + 1
          rw [List.length_append]; show l.length + 1 = _; lia
        · show some (PV.int (m.fdiv 85)) = some (.int (m / 85))
          rw [Int.fdiv_eq_ediv_of_nonneg _ (by decide)]
        · show some (PV.il (l ++ [((SG.getD (m.fmod 85).toNat 0).toNat : Int)])) = some (.il (l ++ [((sg (m % 85)).toNat : Int)]))
          rw [Int.fmod_eq_emod_of_nonneg _ (by decide)]; rfl
      · obtain ⟨m, l⟩ := y
        obtain ⟨k1, k2, k3, _⟩ := hJ
        have hlen : ((rngL 0 5 1).map PV.int).length = 5 := by rw [rng5]; rfl
        have k3 : l.length = ((rngL 0 5 1).map PV.int).length := k3
        have k1 : five (valAt 0 ch) = fiveGo (5 - ((rngL 0 5 1).map PV.int).length) m (l.map fun n => n.toNat.toUInt8).reverse := k1
        rw [hlen] at k1 k3
        have k1 : five (valAt 0 ch) = (l.map fun n => n.toNat.toUInt8).reverse := k1
        rw [← List.map_reverse] at k1
        refine Runs.step (augBa (n := 9) hT rfl (.tail _ (.head _)) rfl rfl ?_ ?_ rfl rfl) ?_
        · walk_at "cond"
          · exact ⟨rfl, by show l.length ≤ 16777216; lia⟩
          · refine ⟨fun x hx => k2 x (List.mem_reverse.mp hx), ?_⟩
            show l.reverse.length ≤ 16777216
            rw [List.length_reverse]; lia
        · show F.length + (l.reverse.map fun n => n.toNat.toUInt8).length ≤ 16777216
          rw [List.length_map, List.length_reverse]; lia
        · refine Runs.nil ⟨F ++ (l.reverse.map fun n => n.toNat.toUInt8), ⟨?_, ?_, hi⟩, .cons rfl (.cons rfl .nil), fun x h => .tail _ h⟩
          · rw [← g1, k1, List.append_assoc]
          · rw [List.length_append, List.length_map, List.length_reverse]; lia
    · obtain ⟨g1, g3, g4⟩ := hJ
      have g1 : F ++ enc4 (k - ((rngL 0 (p.length : Int) 4).map PV.int).length) (p.drop (4 * ((rngL 0 (p.length : Int) 4).map PV.int).length)) = rowOf p := g1
      have g3 : F.length = 1 + 5 * ((rngL 0 (p.length : Int) 4).map PV.int).length := g3
      rw [hrl, Nat.sub_self] at g1
      rw [hrl] at g3
      rw [← g1]
      refine Runs.ret (n := 9) hT rfl ?_ ?_
      · walk_at "cond"
        · show F.length ≤ 16777216; lia
        · show F.length + 1 ≤ 16777216; lia
      · show Out.ret (.bytes (F ++ [10])) = Out.ret (.bytes ((F ++ []) ++ [10]))
        rw [List.append_nil]
end

noncomputable def headOf (w : Str) (n : Int) : List UInt8 := octs w ++ [32] ++ octs (Str.ofString (toString n)) ++ [10]
noncomputable def rowsGo : Nat → List UInt8 → List (List UInt8)
  | 0, _ => []
  | k + 1, l => (rowOf (l.take 52) ++ [10]) :: rowsGo k (l.drop 52)
/-- the packed octets -/
noncomputable def pk (b : List UInt8) : List UInt8 := b.length.toUInt8 :: b
/-- the rows of a written part -/
noncomputable def written (w : Str) (b : List UInt8) : List (List UInt8) := headOf w b.length :: rowsGo ((b.length + 52) / 52) (pk b) ++ [[10]]
noncomputable def spWritten : Spec := tS fun w => tB fun b => tE (some (.rl (written w b), some ((∀ n ∈ w.cps.toList, n < 256) ∧ w.cps.size ≤ 1024 ∧ b.length < 64)))
theorem rowsGo_succ {k : Nat} {l : List UInt8} : rowsGo (k + 1) l = (rowOf (l.take 52) ++ [10]) :: rowsGo k (l.drop 52) := rfl
theorem octs_len {w : Str} : (octs w).length = w.cps.size := by unfold octs; rw [List.length_map, Array.length_toList]
theorem dec_len : ∀ n : Nat, n < 64 → (octs (Str.ofString (toString (n : Int)))).length ≤ 2 := by decide +kernel
theorem enc4_len {k : Nat} : ∀ {l : List UInt8}, (enc4 k l).length = 5 * k := by
  induction k with
  | zero => intro l; rfl
  | succ k ih => intro l; rw [enc4_succ, List.length_append, ih]; show (fiveGo 5 _ []).length + _ = _; rw [five_len]; show 5 + 0 + _ = _; lia
section
variable {X : Exc} {W : Wd} {lv : Nat} {P : Params} {scope : Scope} {cel loc : Loc} {own : List Str} {rest : List Stmt} {K : Out → Prop}
theorem w_l_written (hW : W.K = KK P) : CallOk W (lv + 2) (.ref 242) spWritten := by
  refine fn_ok (D_l_written hW) (by decide) fun ps r c e hc => ?_
  obtain ⟨w, ps, rfl, e1⟩ := tS_use e
  obtain ⟨b, ps, rfl, e2⟩ := tB_use e1
  obtain ⟨rfl, e3⟩ := tE_use e2
  clear e e1 e2
  · cases e3
    obtain ⟨hw1, hw2, hz⟩ := (show _ ∧ _ ∧ _ from hc)
    refine ⟨rfl, ?_⟩
    have hT := ((T0_ok (lv := lv + 1) hW).fn (N_l_octets hW) (K_l_octets hW) (w_l_octets (lv := lv) hW)).fn (N_l_five hW) (K_l_five hW) (w_l_five (lv := lv) hW)
    refine G.let1 (n := 9) (p := .bytes ([((b.length : Int)).toNat.toUInt8] ++ b)) hT rfl ?_ rfl rfl ?_
    · walk_at "cond"
      · show b.length ≤ 16777216; lia
      · show 1 ≤ 16777216; decide
      · refine ⟨fun k hk => ?_, by show 1 ≤ 16777216; decide⟩
        cases List.mem_singleton.mp hk
        exact ⟨by show (0 : Int) ≤ (b.length : Int); lia, by show (b.length : Int) < 256; lia⟩
      · show 1 + b.length ≤ 16777216; lia
    rw [show [((b.length : Int)).toNat.toUInt8] ++ b = pk b from rfl]
    have hpl : (pk b).length = b.length + 1 := rfl
    refine G.letL (n := 9) (p := .rl [headOf w b.length]) hT rfl ?_ rfl (by show 1 ≤ 16777216; decide) rfl ?_
    · have hd := dec_len b.length hz
      have ho := octs_len (w := w)
      have hsg := str_signs b.length hz
      walk_at "cond"
      · exact ⟨hw1, by lia⟩
      · show (octs w).length + 1 ≤ 16777216; lia
      · show b.length ≤ 16777216; lia
      · show (b.length : Int).natAbs.log2 < 1920
        have : b.length.log2 ≤ b.length := Nat.log2_le_self _
        show b.length.log2 < 1920
        lia
      · exact ⟨hsg.1, hsg.2⟩
      · show (octs w ++ [32]).length + (octs (Str.ofString (toString (b.length : Int)))).length ≤ 16777216
        rw [List.length_append]; show (octs w).length + 1 + _ ≤ _; lia
      · show (octs w ++ [32] ++ octs (Str.ofString (toString (b.length : Int)))).length + 1 ≤ 16777216
        rw [List.length_append, List.length_append]; show (octs w).length + 1 + _ + _ ≤ _; lia
    generalize hKe : (b.length + 52) / 52 = k at *
    have hrl : ((rngL 0 ((pk b).length : Int) 52).map PV.int).length = k := by rw [List.length_map, rngL_len (by decide), hpl]; lia
    have hrw : written w b = headOf w b.length :: rowsGo k (pk b) ++ [[10]] := by unfold written; rw [hKe]
    rw [hrw]
    generalize hpk : pk b = pb at *
    refine G.for_ (n := 9) (σ := List (List UInt8)) hT (fun F => [("packed", .bytes pb), ("found", .rl F)]) ["found"] (fun i F => F ++ rowsGo (k - i) (pb.drop (52 * i)) = headOf w b.length :: rowsGo k pb ∧ F.length = 1 + i ∧ i ≤ k) [headOf w b.length] rfl ?_ rfl ?_ rfl rfl (.inr rfl)
      (.cons rfl (.cons rfl .nil)) (fun _ h => h) ⟨rfl, rfl, Nat.zero_le _⟩ (fun i q F hq hJ => ?_) fun F hJ => ?_
    · walk_at "cond"
      · show pb.length ≤ 16777216; lia
      · exact ⟨by decide, by decide, by show ((pb.length : Int) - 0).natAbs < _; lia⟩
    · show Builtin.Range.small 0 (pb.length : Int) 52 = true
      exact small_range (by decide) (by decide) (by decide) (by decide) (by lia) (by lia)
    · obtain ⟨rfl, hi⟩ := rngL_get hq
      have hi : i < k := by
        have := hi
        rw [← List.length_map (f := PV.int)] at this
        exact hrl ▸ this
      obtain ⟨g1, g3, g4⟩ := hJ
      rw [show k - i = (k - (i + 1)) + 1 by lia, rowsGo_succ, List.drop_drop, show 52 * i + 52 = 52 * (i + 1) by lia] at g1
      have ec : cut pb (some (0 + (i : Int) * 52)) (some (0 + (i : Int) * 52 + 52)) = (pb.drop (52 * i)).take 52 := by
        rw [cut_to_nn _ (by lia) (by lia), show (0 + (i : Int) * 52).toNat = 52 * i by lia, show (0 + (i : Int) * 52 + 52).toNat - (52 * i) = 52 by lia]
      have hl1 : 1 ≤ ((pb.drop (52 * i)).take 52).length := by rw [List.length_take, List.length_drop]; lia
      have hl2 : ((pb.drop (52 * i)).take 52).length ≤ 52 := by rw [List.length_take]; lia
      generalize hch : (pb.drop (52 * i)).take 52 = pt at *
      refine G.let1 (n := 9) (p := .bytes (cut pb (some (0 + (i : Int) * 52)) (some (0 + (i : Int) * 52 + 52)))) hT rfl (by walk_at "cond"; exact (show pb.length ≤ 16777216 by lia)) rfl rfl ?_
      rw [ec]
      have hlt : ((pt.length : Int) - 1).toNat = pt.length - 1 := by lia
      refine G.let1 (n := 9) (p := .bytes [((LT.getD ((pt.length : Int) - 1).toNat 0).toNat : Int).toNat.toUInt8]) hT rfl ?_ rfl rfl ?_
      · walk_at "cond"
        · show pt.length ≤ 16777216; lia
        · refine ⟨by show (0 : Int) ≤ (pt.length : Int) - 1; lia, ?_, ?_⟩
          · show (pt.length : Int) - 1 < (LT.length : Int); rw [LT_len]; lia
          · show LT.length ≤ 1048576; rw [LT_len]; decide
        · show 1 ≤ 16777216; decide
        · exact ⟨byte_ok, (show 1 ≤ 16777216 by decide)⟩
      rw [one_byte, hlt]
      generalize hKp : (pt.length + 3) / 4 = kp at *
      have hrl2 : ((rngL 0 (pt.length : Int) 4).map PV.int).length = kp := by rw [List.length_map, rngL_len (by decide)]; lia
      have hro : rowOf pt = [LT.getD (pt.length - 1) 0] ++ enc4 kp pt := by unfold rowOf; rw [hKp]; rfl
      refine G.for_ (n := 9) (σ := List UInt8) hT (fun R => [("packed", .bytes pb), ("found", .rl F), ("part", .bytes pt), ("row", .bytes R)]) ["found"] (fun j R => R ++ enc4 (kp - j) (pt.drop (4 * j)) = rowOf pt ∧ R.length = 1 + 5 * j ∧ j ≤ kp) [LT.getD (pt.length - 1) 0] rfl ?_ rfl ?_ rfl rfl (.inr rfl)
        (.cons rfl (.cons rfl (.cons rfl (.cons rfl .nil)))) (fun _ h => h) ⟨hro.symm, rfl, Nat.zero_le _⟩ (fun j q R hq hJ => ?_) fun R hJ => ?_
      · walk_at "cond"
        · show pt.length ≤ 16777216; lia
        · exact ⟨by decide, by decide, by show ((pt.length : Int) - 0).natAbs < _; lia⟩
      · show Builtin.Range.small 0 (pt.length : Int) 4 = true
        exact small_range (by decide) (by decide) (by decide) (by decide) (by lia) (by lia)
      · obtain ⟨rfl, hj⟩ := rngL_get hq
        have hj : j < kp := by
          have := hj
          rw [← List.length_map (f := PV.int)] at this
          exact hrl2 ▸ this
        obtain ⟨k1, k3, k4⟩ := hJ
        rw [show kp - j = (kp - (j + 1)) + 1 by lia, enc4_succ, List.drop_drop, show 4 * j + 4 = 4 * (j + 1) by lia] at k1
        have ec4 : cut pt (some (0 + (j : Int) * 4)) (some (0 + (j : Int) * 4 + 4)) = (pt.drop (4 * j)).take 4 := by
          rw [cut_to_nn _ (by lia) (by lia), show (0 + (j : Int) * 4).toNat = 4 * j by lia, show (0 + (j : Int) * 4 + 4).toNat - (4 * j) = 4 by lia]
        have hf5 : ∀ n : Int, (five n).length = 5 := fun n => by show (fiveGo 5 n []).length = 5; rw [five_len]; rfl
        refine G.let1 (n := 9) (p := .bytes (R ++ five (valAt 0 (pad4 (cut pt (some (0 + (j : Int) * 4)) (some (0 + (j : Int) * 4 + 4))))))) hT rfl ?_ rfl rfl ?_
        · walk_at "cond"
          · show pt.length ≤ 16777216; lia
          · show (cut pt (some (0 + (j : Int) * 4)) (some (0 + (j : Int) * 4 + 4))).length ≤ 4
            rw [ec4, List.length_take]; lia
          · show R.length + (five _).length ≤ 16777216
            rw [hf5]; lia
        rw [ec4]
        refine Runs.nil ⟨R ++ five (valAt 0 (pad4 ((pt.drop (4 * j)).take 4))), ⟨?_, ?_, hj⟩, .cons rfl (.cons rfl (.cons rfl (.cons rfl .nil))), fun _ h => h⟩
        · rw [← k1, List.append_assoc]
        · rw [List.length_append, hf5]; lia
      · obtain ⟨k1, k3, k4⟩ := hJ
        have k1 : R ++ enc4 (kp - ((rngL 0 (pt.length : Int) 4).map PV.int).length) (pt.drop (4 * ((rngL 0 (pt.length : Int) 4).map PV.int).length)) = rowOf pt := k1
        have k3 : R.length = 1 + 5 * ((rngL 0 (pt.length : Int) 4).map PV.int).length := k3
        rw [hrl2] at k3
        rw [hrl2, Nat.sub_self] at k1
        have k1 : R = rowOf pt := by rw [← k1]; exact (List.append_nil _).symm
        refine Runs.step (append_ok (n := 9) hT rfl rfl rfl rfl (.head _) rfl rfl (by walk_at "cond"; exact (show R.length + 1 ≤ 16777216 by lia)) rfl (by show F.length ≤ 1000000; lia) rfl rfl) ?_
        refine Runs.nil ⟨F ++ [R ++ [10]], ⟨?_, ?_, hi⟩, .cons rfl (.cons rfl .nil), fun _ h => h⟩
        · rw [← g1, k1, List.append_assoc]; rfl
        · rw [List.length_append]; show F.length + 1 = _; lia
    · obtain ⟨g1, g3, g4⟩ := hJ
      have g1 : F ++ rowsGo (k - ((rngL 0 (pb.length : Int) 52).map PV.int).length) (pb.drop (52 * ((rngL 0 (pb.length : Int) 52).map PV.int).length)) = headOf w b.length :: rowsGo k pb := g1
      have g3 : F.length = 1 + ((rngL 0 (pb.length : Int) 52).map PV.int).length := g3
      rw [hrl, Nat.sub_self] at g1
      rw [hrl] at g3
      rw [← g1]
      refine Runs.ret (n := 9) hT rfl ?_ ?_
      · walk_at "cond"
        · show 1 ≤ 16777216; decide
        · show F.length + 1 ≤ 16777216; lia
      · show Out.ret (.rl (F ++ [[10]])) = Out.ret (.rl ((F ++ []) ++ [[10]]))
        rw [List.append_nil]
end

/-- a cell is turned: what stands for values stays -/
theorem Rep.butCell {H : List Addr} {h h' : Heap} {a : Addr} {w : Option Value} (ho : h.IsCell a w) (hs : ∀ b ob, b ≠ a → h.get? b = some ob → h'.get? b = some ob) :
    ∀ {p : PV} {v : Value}, Rep H h p v → Rep H h' p v := by
  obtain ⟨o, ho, hd⟩ := ho
  have ne : ∀ {b : Addr} {ob : Obj}, h.get? b = some ob → ob.data ≠ .cell w → b ≠ a := fun {b ob} e n q => by
    subst q; rw [ho] at e; cases e; exact n hd
  have lst : ∀ {b : Addr} {items : Array Value}, h.IsList b items → h'.IsList b items := fun {b items} ⟨ob, e, c, n, d⟩ => ⟨ob, hs _ _ (ne e (by rw [d]; intro q; cases q)) e, c, n, d⟩
  have tup : ∀ {b : Addr} {items : Array Value}, IsTup h b items → IsTup h' b items := fun {b items} ⟨ob, e, c, n, d⟩ => ⟨ob, hs _ _ (ne e (by rw [d]; intro q; cases q)) e, c, n, d⟩
  intro p
  induction p with
  | none | bool | int | str | bytes => exact fun r => r
  | il l => rintro v ⟨b, vs, e, m, x, i⟩; exact ⟨b, vs, e, m, lst x, i⟩
  | rl l => rintro v ⟨b, vs, e, m, x, i⟩; exact ⟨b, vs, e, m, lst x, i⟩
  | sl l => rintro v ⟨b, vs, e, m, x, i⟩; exact ⟨b, vs, e, m, lst x, i⟩
  | pair p q ip iq => rintro v ⟨b, x, y, e, m, t, r1, r2⟩; exact ⟨b, x, y, e, m, tup t, ip r1, iq r2⟩
  | trip p q r ip iq ir => rintro v ⟨b, x, y, z, e, m, t, r1, r2, r3⟩; exact ⟨b, x, y, z, e, m, tup t, ip r1, iq r2, ir r3⟩
  | ba b => rintro v ⟨b, e, m, g⟩; exact ⟨b, e, m, hs _ _ (ne g (by intro q; cases q)) g⟩
  | rng x y z => rintro v ⟨b, t, u, w, e, m, x⟩; exact ⟨b, t, u, w, e, m, hs _ _ (ne x (by intro q; cases q)) x⟩
  | codec => rintro v ⟨b, dx, e, m, d, g, g'⟩; exact ⟨b, dx, e, m, d, hs _ _ (ne g (by intro q; cases q)) g, hs _ _ (ne g' (by intro q; cases q)) g'⟩
theorem rngL_mem {a b c x : Int} (h : x ∈ rngL a b c) : ∃ i : Nat, i < (rngL a b c).length ∧ x = a + i * c := by
  obtain ⟨i, hi⟩ := List.getElem?_of_mem h
  have h2 : ((rngL a b c).map PV.int)[i]? = some (.int x) := by rw [List.getElem?_map, hi]; rfl
  obtain ⟨e, hl⟩ := rngL_get h2
  injection e with e
  exact ⟨i, hl, e⟩
theorem rows_at : ∀ (k : Nat) (pb : List UInt8), (List.range k).map (fun i : Nat => rowOf ((pb.drop (52 * i)).take 52) ++ [10]) = rowsGo k pb
  | 0, _ => rfl
  | k + 1, pb => by
    rw [rowsGo_succ, ← rows_at k (pb.drop 52), List.range_succ_eq_map, List.map_cons, List.map_map]
    congr 1
    refine List.map_congr_left fun i _ => ?_
    show rowOf ((pb.drop (52 * (i + 1))).take 52) ++ [10] = rowOf (((pb.drop 52).drop (52 * i)).take 52) ++ [10]
    rw [List.drop_drop, show 52 + 52 * i = 52 * (i + 1) by lia]
theorem rows_eq {pb : List UInt8} {n : Int} {k : Nat} (h : (rngL 0 n 52).length = k) : (rngL 0 n 52).map (fun a => rowOf (cut pb (some a) (some (a + 52))) ++ [10]) = rowsGo k pb := by
  rw [← rows_at]
  unfold rngL at h ⊢
  rw [List.length_map, List.length_range] at h
  rw [h, List.map_map]
  refine List.map_congr_left fun i _ => ?_
  show rowOf (cut pb (some (0 + (i : Int) * 52)) (some (0 + (i : Int) * 52 + 52))) ++ [10] = _
  rw [cut_to_nn _ (by lia) (by lia), show (0 + (i : Int) * 52).toNat = 52 * i by lia, show (0 + (i : Int) * 52 + 52).toNat - (52 * i) = 52 by lia]
theorem flat_go : ∀ (k : Nat) (pb : List UInt8), (rowsGo k pb).flatten.length ≤ k * 128
  | 0, _ => by show 0 ≤ _; lia
  | k + 1, pb => by
    rw [rowsGo_succ, List.flatten_cons, List.length_append, List.length_append]
    have := flat_go k (pb.drop 52)
    have h2 : (rowOf (pb.take 52)).length ≤ 66 := by
      show (enc4 _ _).length + 1 ≤ _
      rw [enc4_len, List.length_take]; lia
    show (rowOf (pb.take 52)).length + 1 + _ ≤ _
    lia
theorem flat_len {w : Str} {b : List UInt8} (hw : w.cps.size ≤ 1024) (hz : b.length < 64) : (headOf w b.length :: rowsGo ((b.length + 52) / 52) (pk b)).flatten.length ≤ 100000 := by
  rw [List.flatten_cons, List.length_append]
  have h1 := flat_go ((b.length + 52) / 52) (pk b)
  have hd2 := dec_len b.length hz
  have ho := octs_len (w := w)
  have h3 : (headOf w b.length).length ≤ 2000 := by
    unfold headOf
    rw [List.length_append, List.length_append, List.length_append]
    show (octs w).length + 1 + _ + 1 ≤ _
    lia
  lia
noncomputable def spWrite : Spec := tP fun p q r => with_ p.str? fun w => with_ q.bytes? fun b => tC (tE (some (.bytes (written w.1 b.1).flatten, some ((∀ n ∈ w.1.cps.toList, n < 256) ∧ w.1.cps.size ≤ 1024 ∧ b.1.length < 64)))) r
section
variable {X : Exc} {W : Wd} {lv : Nat} {P : Params} {scope : Scope} {cel loc : Loc} {own : List Str} {rest : List Stmt} {K : Out → Prop} {f : Fm} {s : Shared} {m : Str → Option Value} {T : Tb} {n : Nat} {x : Str} {p : PV} {c : Cond} {xp pos : Pos} {e : Expr}
/-- a value under a cell's name, the frame's first -/
theorem cellFirst {q : Addr} {Q : Flow → Shared → Prop} {E : Value → Shared → Prop} (hT : TbOk W lv T) (C : StOk W lv f scope [] loc [] m s) (hx : scope.names.lookup x = some .cell) (hl : f.env.cells.lookup x = some q) (hq : q ≠ f.L ∧ f.h₀.get? q = none ∧ ∃ v, s.heap.IsCell q v)
    (hcomp : isComp e = false) (e1 : (ev T n).1 ⟨scope.names, []⟩ loc e = some (p, c)) (hc : c.holds) (hp : (p.plain || !isNil loc) = true)
    (g : ∀ h' tk, StOk W lv f scope [(x, p)] loc [] m ⟨h', s.gens, s.drawn, tk, s.os⟩ → Q .next ⟨h', s.gens, s.drawn, tk, s.os⟩) :
    wpR (model W.prog W.w) f.A (exec (.Assign [.Name x xp] e pos) f.env) Q E s := by
  rw [exec_Assign_Name (hs := swaps_plain hcomp)]
  refine wpR_bind (wpR_standAt (wpR_bind ((ev_ok hT n).1 _ _ e p c e1 hc f f.env s _ E C.env fun v h' tk k r => ?_)))
  have z : Nx W lv f scope [] [] m s loc [] m h' tk := Nx.of_stays C k
  obtain ⟨q1, q2, w, q3⟩ := hq
  have hcell := cell_stays k q3
  refine wpR_bind (wpR_standAt (wpR_bindA (wpAny_bindName (wpAny_storeName_cell (c := q) C.ok.k (by show f.cs.names.lookup x = _; rw [C.sc]; exact hx) hl hcell fun h2 hn2 hs2 => wpR_pure (g h2 tk ?_)))))
  have kp : ∀ b ob, b ≠ q → h'.get? b = some ob → h2.get? b = some ob := fun b ob nb eb => hs2.extBut b ob nb eb
  have r' : Rep [f.L] h' p v := r.apart z.ok.fr.ns ((Bool.or_eq_true_iff.mp hp).imp id fun w => z.ok.lc.some_of (by simpa using w))
  refine ⟨C.sc, fun y py hy => ?_, C.ok, ⟨?_, fun b o eb => kp b o (fun w => ?_) (z.ok.fr.keep b o eb), z.ok.fr.above⟩, fun y py hy => ?_, fun y hy => nomatch hy⟩
  · rw [List.lookup_cons] at hy
    by_cases h1 : y = x
    · subst h1
      rw [beq_self_eq_true] at hy
      cases hy
      exact ⟨.inl (by show f.cs.names.lookup y = _; rw [C.sc]; exact hx), q, v, hl, hn2, r'.butCell hcell kp⟩
    · rw [beq_eq_false_iff_ne.mpr h1] at hy; cases hy
  · obtain ⟨o, es, ep, e', r''⟩ := z.ok.fr.ns
    exact ⟨o, es, ep, kp _ _ (Ne.symm q1) e', r''⟩
  · rw [w, q2] at eb; cases eb
  · obtain ⟨u, u1, u2⟩ := z.ok.lc y py hy
    exact ⟨u, u1, u2.butCell hcell kp⟩
theorem listcomp_fresh (hT : TbOk W lv T) {sc : Sc} {elt ta it : Expr} {ifs : List Expr} {k : Int} {scope : Scope} {pos : Pos} (e1 : evComp (ev T n).1 (ev T n).2 sc loc elt scope ta it ifs k = some (p, c)) (hc : c.holds) {env : Env} {Q E : Value → Shared → Prop} (C : EnvOk W lv f sc loc env s)
    (g : ∀ D h' tk, s.heap.StaysIn h' → s.heap.get? D = none → Rep [] h' p (.ref D) → Bare h' D → Q (.ref D) ⟨h', s.gens, s.drawn, tk, s.os⟩) : wpR (model W.prog W.w) f.A (eval (.ListComp elt [⟨ta, it, ifs, k⟩] scope pos) env) Q E s := by
  rw [eval_ListComp]
  refine comp_ok (ev_ok hT n).1 (ev_ok hT n).2 p c e1 hc f env s none Q E C fun D C' h' tk m hC hD hDC hk hp hb hn => ⟨m, hn, fun h'' hs => g _ _ _ ?_ hD ?_ ?_⟩
  · exact fun b o e => hs.extBut b o (by rintro rfl; rw [hC] at e; cases e) (hk b o e)
  · exact hp.turn (H := [C']) (H' := []) (fun a o n e => hs.extBut a o (fun q => n (q ▸ List.mem_singleton_self _)) e) (fun _ _ _ _ => List.not_mem_nil)
  · obtain ⟨o, h1, h2⟩ := hb
    exact ⟨o, hs.extBut D o hDC h1, h2⟩
theorem metB_of {o : Option (PV × Cond)} {b : List UInt8} {c : Cond} (e : o = some (.bytes b, c)) (h : c.holds) : metB o := by subst e; exact h
theorem G.extC {np ap cp lp : Pos} {elt ta it : Expr} {ifs : List Expr} {k : Int} {sc2 : Scope} {l l₂ : List (List UInt8)} (hT : TbOk W lv T) (hb : (ap.endLine == cp.line) = true) (hx : isLoc scope x = true) (hd0 : (x == ("__debug__" : Str)) = false) (hown : x ∈ own) (hl : loc.lookup x = some (.rl l)) (e1 : evComp (ev T n).1 (ev T n).2 ⟨scope.names, cel⟩ loc elt sc2 ta it ifs k = some (.rl l₂, c)) (hc : c.holds) (hz : l.length + l₂.length ≤ 1000000) (once : onceIn loc = true) (hce : freeAll .list cel = true)
    (next : Runs X W lv scope cel (put x (.rl (l ++ l₂)) (cutLoc .list loc)) own rest K) : Runs X W lv scope cel loc own (.Expr (.Call (.Attribute (.Name x np) "extend" ap) [.ListComp elt [⟨ta, it, ifs, k⟩] sc2 lp] [] cp) pos :: rest) K :=
  Runs.step (extend_ok (n := n + 1) hT hb rfl hx hd0 hown hl e1 hc hz once hce fun f s C Q E g => listcomp_fresh hT e1 hc C g) next
theorem w_write (hW : W.K = KK P) : CallOk W (lv + 4) (.ref 173) spWrite := by
  intro f s ps vs Q E ok ⟨m, F⟩ hr r c e hc g
  obtain ⟨p, q, ps, rfl, e1⟩ := tP_use e
  obtain ⟨⟨w, rfl⟩, e2⟩ := with_elim e1
  obtain ⟨⟨b, rfl⟩, e3⟩ := with_elim e2
  obtain ⟨ps, rfl, e4⟩ := tC_use e3
  obtain ⟨rfl, e5⟩ := tE_use e4
  clear e e1 e2 e3 e4
  · cases e5
    obtain ⟨hw1, hw2, hz⟩ := (show _ ∧ _ ∧ _ from hc)
    have hT := ((((T0_ok (lv := lv + 3) hW).fn (N_octets_of hW) (K_octets_of hW) (w_octets_of (lv := lv + 2) hW)).fn (N_decimal hW) (K_decimal hW) (w_decimal (lv := lv + 1) hW)).fn (N_row_85 hW) (K_row_85 hW) (w_row_85 (lv := lv) hW)).me hW get_pack find_pack fn_pack (K_pack hW) (w_pack (lv := lv + 1) hW)
    refine call_defC (D_write_binary hW) (by decide) (loc := [("told", .pair (.str w) (.bytes b)), ("codec", .codec)]) (cel := []) ok F hr rfl (fun x p h => ?_) (fun _ _ h => nomatch h) fun f' m' s' hf hg hd hos st hcl => ?_
    · rcases List.mem_cons.mp (lookup_mem h) with h | h
      · cases h; exact ⟨by kernel_rfl, rfl⟩
      rcases List.mem_cons.mp h with h | h
      · cases h; exact ⟨by kernel_rfl, rfl⟩
      cases h
    have hpl : (pk b).length = b.length + 1 := rfl
    subst hf
    have hlk : (f.callC s.heap 173 "write_binary" (fScope (St 24)) (.ref 172) (cellsFrom (s.heap.objs.size + 1) (fScope (St 24)).names [])).env.cells.lookup ("packed" : Str) = some (s.heap.objs.size + 1) := by rfl
    have hd2 := dec_len b.length hz
    have ho := octs_len (w := w)
    have hsg := str_signs b.length hz
    have key : Runs (fun _ _ _ _ => False) W (lv + 3) (fScope (St 24)) [("packed", .bytes (pk b))] [("told", .pair (.str w) (.bytes b)), ("codec", .codec)] [] (fBody (St 24)).tail (fun o => o = .ret (.bytes (written w b).flatten)) := by
      refine G.letL (n := 9) (p := .rl [headOf w b.length]) hT rfl ?_ rfl (by show 1 ≤ 16777216; decide) rfl ?_
      · walk_at "cond"
        · rfl
        · exact ⟨hw1, by lia⟩
        · show (octs w).length + 1 ≤ 16777216; lia
        · rfl
        · show b.length ≤ 16777216; lia
        · show (0 : Int) ≤ (b.length : Int) ∧ (b.length : Int) < 64; lia
        · show (octs w ++ [32]).length + (octs (Str.ofString (toString (b.length : Int)))).length ≤ 16777216
          rw [List.length_append]; show (octs w).length + 1 + _ ≤ _; lia
        · show (octs w ++ [32] ++ octs (Str.ofString (toString (b.length : Int)))).length + 1 ≤ 16777216
          rw [List.length_append, List.length_append]; show (octs w).length + 1 + _ + _ ≤ _; lia
      generalize hKe : (b.length + 52) / 52 = k at *
      have hrw : written w b = headOf w b.length :: rowsGo k (pk b) ++ [[10]] := by unfold written; rw [hKe]
      rw [hrw]
      generalize hpk : pk b = pb at *
      have hrl : (rngL 0 (pb.length : Int) 52).length = k := by rw [rngL_len (by decide), hpl]; lia
      have hmem : ∀ a ∈ rngL 0 (pb.length : Int) 52, 0 ≤ a ∧ 1 ≤ (cut pb (some a) (some (a + 52))).length ∧ (cut pb (some a) (some (a + 52))).length ≤ 52 := fun a ha => by
        obtain ⟨i, hi, rfl⟩ := rngL_mem ha
        rw [hrl] at hi
        rw [cut_to_nn _ (by lia) (by lia), List.length_take, List.length_drop]
        lia
      have hrows : (rngL 0 (pb.length : Int) 52).map (fun a => rowOf (cut pb (some a) (some (a + 52))) ++ [10]) = rowsGo k pb := rows_eq hrl
      have hpz : pb.length ≤ 16777216 := by lia
      refine G.extC (n := 12) hT rfl rfl rfl (.head _) rfl rfl ?_ ?_ rfl rfl ?_
      · walk_at "cond"
        · exact hpz
        · exact ⟨by decide, by decide, by show ((pb.length : Int) - 0).natAbs < _; lia⟩
        · show Builtin.Range.small 0 (pb.length : Int) 52 = true
          exact small_range (by decide) (by decide) (by decide) (by decide) (by lia) (by lia)
        · refine comp_cond (by show (rngL 0 (pb.length : Int) 52).length ≤ _; rw [hrl]; lia) fun a ha => ?_
          obtain ⟨m1, m2, m3⟩ := hmem a ha
          exact metB_of rfl (by walk_at "cond"; exact hpz; exact ⟨m2, m3⟩)
      · rw [comp_byt (F := fun a : Int => rowOf (cut pb (some a) (some (a + 52))) ++ [10]) fun a _ => rfl]
        show [headOf w b.length].length + ((rngL 0 (pb.length : Int) 52).map (fun a => rowOf (cut pb (some a) (some (a + 52))) ++ [10])).length ≤ 1000000
        rw [List.length_map, hrl]; show 1 + k ≤ _; lia
      · rw [comp_byt (F := fun a : Int => rowOf (cut pb (some a) (some (a + 52))) ++ [10]) fun a _ => rfl]
        have hrows' : [headOf w b.length] ++ (rngL 0 (pb.length : Int) 52).map (fun a => rowOf (cut pb (some a) (some (a + 52))) ++ [10]) = headOf w b.length :: rowsGo k pb := by rw [hrows]; rfl
        refine G.to (loc' := [("found", .rl (headOf w b.length :: rowsGo k pb))]) (.cons (by rw [← hrows']; rfl) .nil) (own' := []) ?_ (fun _ h => nomatch h)
        have hfl := flat_len (w := w) (b := b) hw2 hz
        rw [hKe, hpk] at hfl
        refine Runs.ret (n := 9) hT rfl ?_ ?_
        · walk_at "cond"
          · refine ⟨rfl, ?_, by show (headOf w b.length :: rowsGo k pb).flatten.length ≤ 16777216; lia⟩
            have : (rowsGo k pb).length = k := by rw [← hrows, List.length_map, hrl]
            show 2 ≤ (rowsGo k pb).length + 1; lia
          · show (headOf w b.length :: rowsGo k pb).flatten.length + 1 ≤ 16777216; lia
        · show Out.ret (.bytes ((headOf w b.length :: rowsGo k pb).flatten ++ [10])) = Out.ret (.bytes (headOf w b.length :: rowsGo k pb ++ [[10]]).flatten)
          rw [List.flatten_append]; rfl
    refine execsR_cons (cellFirst (n := 9) (p := .bytes (pk b)) hT st rfl hlk (hcl _ _ hlk) rfl rfl ?_ rfl fun h1 tk1 st1 => ?_)
    · walk_at "cond"
      · rfl
      · show b.length < 128; lia
    refine key _ _ _ _ _ st1 ⟨fun l o _ _ _ k => (nomatch k), fun p v m₂ h₂ tk k F₂ r₂ => ?_, fun C k => nomatch k⟩
    cases k
    rw [hg, hd, hos]
    exact g v h₂ tk (fun b o e => F₂.keep b o e) r₂
end

local macro_rules | `(tactic| walk_at "cond") => `(tactic| repeat' (first | exact trivial | refine Cond.and_mk ?_ ?_ | refine Cond.imp_mk fun _ => ?_ | dsimp only))
noncomputable def lit : List UInt8 := [108, 105, 116, 101, 114, 97, 108]
noncomputable def del : List UInt8 := [100, 101, 108, 116, 97]
noncomputable def pkRows : List (List UInt8) → Option (List UInt8 × Nat)
  | [] => none
  | r :: rs => if r = [10] then some ([], 0) else match partOf (bare r) with
    | some p => (pkRows rs).map fun x => (p ++ x.1, x.2 + 1)
    | none => none
/-- what is asked of a head's words -/
noncomputable def wordsOk (ws : List (List UInt8)) : Bool := decide (ws.length = 2) && (ws.getD 0 [] == lit || ws.getD 0 [] == del)
noncomputable def dueFrom (ws rs : List (List UInt8)) (t : Int) : Option (List UInt8 × List UInt8 × Int) :=
  if wordsOk ws = true then match numOf (ws.getD 1 []) with
    | some n => match pkRows rs with
      | some x => match unp x.1 with
        | some o => if (o.length : Int) = n then some (ws.getD 0 [], o, t + x.2 + 2) else none
        | none => none
      | none => none
    | none => none
  else none
/-- what is due of the rows from a place -/
noncomputable def due (rows : List (List UInt8)) (a : Nat) : Option (List UInt8 × List UInt8 × Int) := dueFrom (splitB (bare (rows.getD a [])) [32]) (rows.drop (a + 1)) a
noncomputable def tellPV (x : List UInt8 × List UInt8 × Int) : PV := .pair (.pair (.str (txt x.1)) (.bytes x.2.1)) (.int x.2.2)
noncomputable def duePV : Option (List UInt8 × List UInt8 × Int) → PV
  | some x => tellPV x
  | none => .none
noncomputable def Bd (rows : List (List UInt8)) : Prop := rows.length ≤ 256 ∧ ∀ r ∈ rows, r.length ≤ 4096
noncomputable def spDue : Spec := tR fun rows => tI fun a => tE (some (duePV (due rows a.toNat), some (Bd rows ∧ 0 ≤ a ∧ a < (rows.length : Int))))
theorem pkRows_cons {r : List UInt8} {rs : List (List UInt8)} : pkRows (r :: rs) = if r = [10] then some ([], 0) else match partOf (bare r) with
    | some p => (pkRows rs).map fun x => (p ++ x.1, x.2 + 1)
    | none => none := rfl
theorem bare_len (r : List UInt8) : (bare r).length ≤ r.length := by
  unfold bare
  split
  · rw [List.length_dropLast]; lia
  · exact Nat.le_refl _
theorem part_len {b p : List UInt8} (h : partOf b = some p) : p.length ≤ 52 := by
  match b, h with
  | c :: r, h =>
    rw [partOf_cons] at h
    split at h
    · cases h
    · rename_i q
      cases e : dec5 ((manyOf c + 3) / 4) r with
      | none => rw [e] at h; cases h
      | some l =>
        rw [e] at h
        cases h
        show (l.take (manyOf c)).length ≤ 52
        rw [List.length_take]
        have : manyOf c ≤ 52 := by
          unfold manyOf
          split
          · lia
          · split <;> lia
        lia
theorem split_sizes (b c : List UInt8) : ∀ x ∈ splitB b c, x.length ≤ b.length := by
  unfold splitB
  split
  · intro x hx; cases List.mem_singleton.mp hx; exact Nat.le_refl _
  · intro x hx
    obtain ⟨y, hy, rfl⟩ := List.mem_map.mp hx
    have := (between_sizes b.toArray c.length (placesB b c)).1 y hy
    rw [Array.length_toList]
    rwa [List.size_toArray] at this
theorem getD_len {l : List (List UInt8)} {n i : Nat} (h : ∀ x ∈ l, x.length ≤ n) : (l.getD i []).length ≤ n := by
  rw [List.getD_eq_getElem?_getD]
  cases e : l[i]? with
  | none => exact Nat.zero_le _
  | some x => exact h x (List.mem_of_getElem? e)
theorem words_val {w0 : List UInt8} : [lit, del].any (· == w0) = (w0 == lit || w0 == del) := by
  show (lit == w0 || (del == w0 || false)) = _
  rw [Bool.or_false, Bool.beq_comm (a := lit), Bool.beq_comm (a := del)]
theorem item_rl {rows : List (List UInt8)} {i : Nat} {r : List UInt8} {t : List (List UInt8)} (h : rows.drop i = r :: t) : rows.getD i [] = r ∧ i < rows.length ∧ rows.drop (i + 1) = t := by
  have hi : i < rows.length := by
    rcases Nat.lt_or_ge i rows.length with h' | h'
    · exact h'
    · rw [List.drop_eq_nil_of_le h'] at h; cases h
  have h2 := h
  rw [List.drop_eq_getElem_cons hi] at h
  injection h with h1 _
  exact ⟨by rw [List.getD_eq_getElem?_getD, List.getElem?_eq_getElem hi]; exact h1, hi, by rw [← List.drop_drop, h2]; rfl⟩
theorem unp_len {b o : List UInt8} (h : unp b = some o) : o.length ≤ b.length := by
  unfold unp at h
  cases e : szGo b with
  | none => rw [e] at h; cases h
  | some x =>
    rw [e] at h
    dsimp only at h
    split at h
    · cases h; have := szGo_len e; lia
    · cases h
noncomputable def spNumI : Spec := tB fun b => tE (some (.int ((numOf b).getD 0), some ((numOf b).isSome = true ∧ b.length ≤ 65536)))
theorem CallOk.int {W : Wd} {lv : Nat} {fv : Value} (h : CallOk W lv fv spNum) : CallOk W lv fv spNumI := by
  intro f s ps vs Q E ok F r p c e hc g
  obtain ⟨b, ps, rfl, e1⟩ := tB_use e
  obtain ⟨rfl, e2⟩ := tE_use e1
  clear e e1
  · cases e2
    obtain ⟨h1, h2⟩ := (show _ ∧ _ from hc)
    refine h f s [.bytes b] vs Q E ok F r (optI (numOf b)) _ rfl h2 ?_
    cases hn : numOf b with
    | none => rw [hn] at h1; cases h1
    | some n => rw [hn] at g; exact g
theorem metS_of {o : Option (PV × Cond)} {b : Str} {c : Cond} (e : o = some (.str b, c)) (h : c.holds) : metS o := by subst e; exact h
theorem text_val (b : List UInt8) : Txt.join ⟨#[]⟩ (b.map fun a => (⟨#[a.toNat]⟩ : Str)) = txt b := by
  have := join_signs (b.map (·.toNat))
  rw [List.map_map] at this
  exact this
section
variable {X : Exc} {W : Wd} {lv : Nat} {P : Params} {scope : Scope} {cel loc : Loc} {own : List Str} {rest : List Stmt} {K : Out → Prop}
theorem w_l_due (hW : W.K = KK P) : CallOk W (lv + 2) (.ref 273) spDue := by
  refine fn_ok (D_l_due hW) (by decide) fun ps r c e hc => ?_
  obtain ⟨rows, ps, rfl, e1⟩ := tR_use e
  obtain ⟨a, ps, rfl, e2⟩ := tI_use e1
  obtain ⟨rfl, e3⟩ := tE_use e2
  clear e e1 e2
  · cases e3
    obtain ⟨⟨hb1, hb2⟩, ha0, ha1⟩ := (show _ ∧ _ ∧ _ from hc)
    obtain ⟨a, rfl⟩ := Int.eq_ofNat_of_zero_le ha0
    refine ⟨rfl, ?_⟩
    have hT := ((((T0_ok (lv := lv + 1) hW).fn (N_l_bare hW) (K_l_bare hW) (w_l_bare (lv := lv) hW)).fn (N_l_number hW) (K_l_number hW) (w_l_number (lv := lv) hW)).fn (N_l_part hW) (K_l_part hW) (w_l_part (lv := lv) hW)).fn (N_l_unpacked hW) (K_l_unpacked hW) (w_l_unpacked (lv := lv) hW)
    have hra : (rows.getD a []).length ≤ 4096 := getD_len hb2
    have hba := bare_len (rows.getD a [])
    have hws := split_sizes (bare (rows.getD a [])) [32]
    have hwl := splitB_len (bare (rows.getD a [])) [32]
    have hw0 : ((splitB (bare (rows.getD a [])) [32]).getD 0 []).length ≤ 4096 := Nat.le_trans (getD_len hws) (by lia)
    have hw1 : ((splitB (bare (rows.getD a [])) [32]).getD 1 []).length ≤ 4096 := Nat.le_trans (getD_len hws) (by lia)
    show Runs _ _ _ _ _ _ _ _ (fun o => o = .ret (duePV (dueFrom (splitB (bare (rows.getD a [])) [32]) (rows.drop (a + 1)) a)))
    refine G.letT (n := 9) (p := .trip (.rl (splitB (bare (rows.getD a [])) [32])) (.bytes []) (.int ((a : Int) + 1))) hT rfl ?_ rfl rfl trivial ?_
    · walk_at "cond"
      · exact ⟨ha0, ha1, by show rows.length ≤ 1048576; lia⟩
      · show (rows.getD a []).length ≤ 1048576; lia
      · exact ⟨(fun h => nomatch h), (by show (bare (rows.getD a [])).length ≤ 1048576; lia)⟩
    generalize hwse : splitB (bare (rows.getD a [])) [32] = ws at *
    refine Runs.ite (n := 12) hT rfl ?_ (fun h => ?_) fun h => ?_
    · have two : ∀ {q : Bool}, ((ws.length : Int) != 2) = false → ws.length = 2 := fun h => by
        rw [bne_eq_false_iff_eq] at h; lia
      walk_at "cond"
      · show ws.length ≤ 16777216; lia
      · rename_i q
        have q : ((ws.length : Int) != 2) = false := q
        rw [bne_eq_false_iff_eq] at q
        exact ⟨(by decide : (0 : Int) ≤ 0), (by show (0 : Int) < (ws.length : Int); lia), (by show ws.length ≤ 1048576; lia)⟩
      · show 2 ≤ 64; decide
      · rename_i q _
        have q : ((ws.length : Int) != 2) = false := q
        rw [bne_eq_false_iff_eq] at q
        exact ⟨(by decide : (0 : Int) ≤ 1), (by show (1 : Int) < (ws.length : Int); lia), (by show ws.length ≤ 1048576; lia)⟩
      · show (ws.getD 1 []).length ≤ 65536; lia
    · have h : (((ws.length : Int) != 2) || (!([lit, del].any (· == ws.getD 0 []))) || ((optI (numOf (ws.getD 1 []))).isNone || false)) = true := by
        rw [Bool.or_assoc]; exact h
      refine Runs.ret (n := 9) hT rfl trivial ?_
      unfold dueFrom
      split
      · rename_i q
        unfold wordsOk at q
        rw [Bool.and_eq_true, decide_eq_true_iff] at q
        rw [words_val, q.2, show ((ws.length : Int) != 2) = false by rw [bne_eq_false_iff_eq]; lia] at h
        cases hn : numOf (ws.getD 1 []) with
        | none => rfl
        | some n => rw [hn] at h; cases h
      · rfl
    · have h : (((ws.length : Int) != 2) || (!([lit, del].any (· == ws.getD 0 []))) || ((optI (numOf (ws.getD 1 []))).isNone || false)) = false := by
        rw [Bool.or_assoc]; exact h
      rw [words_val, Bool.or_eq_false_iff, Bool.or_eq_false_iff, Bool.or_false, bne_eq_false_iff_eq, Bool.not_eq_false'] at h
      obtain ⟨⟨l1, l2⟩, l3⟩ := h
      have hok : wordsOk ws = true := by
        unfold wordsOk
        rw [l2, decide_eq_true (by lia)]; rfl
      cases hn : numOf (ws.getD 1 []) with
      | none => rw [hn] at l3; cases l3
      | some n =>
      have hdue : dueFrom ws (rows.drop (a + 1)) a = match pkRows (rows.drop (a + 1)) with
          | some x => match unp x.1 with
            | some o => if (o.length : Int) = n then some (ws.getD 0 [], o, (a : Int) + x.2 + 2) else none
            | none => none
          | none => none := by
        unfold dueFrom
        rw [if_pos hok, hn]
      generalize dueFrom ws (rows.drop (a + 1)) a = D at *
      refine G.while_ (n := 12) (σ := Nat × List UInt8) hT (fun y => [("rows", .rl rows), ("at", .int (a : Int)), ("words", .rl ws), ("packed", .bytes y.2), ("to", .int (((a + 1 + y.1 : Nat)) : Int))]) []
        (fun y => pkRows (rows.drop (a + 1)) = (pkRows (rows.drop (a + 1 + y.1))).map (fun x => (y.2 ++ x.1, x.2 + y.1)) ∧ y.2.length ≤ 52 * y.1 ∧ a + 1 + y.1 ≤ rows.length) (fun y => rows.length - (a + 1 + y.1)) (0, []) ?_ (fun _ h => nomatch h) ⟨?_, by decide, by show a + 1 + 0 ≤ _; lia⟩ fun y hy => ?_
      · exact .cons rfl (.cons rfl (.cons rfl (.cons rfl (.cons rfl .nil))))
      · show pkRows (rows.drop (a + 1)) = (pkRows (rows.drop (a + 1))).map fun x => ([] ++ x.1, x.2 + 0)
        cases pkRows (rows.drop (a + 1)) <;> rfl
      obtain ⟨k, pk'⟩ := y
      obtain ⟨g1, g2, g3⟩ := hy
      dsimp only at g1 g2 g3
      refine ⟨_, _, rfl, ?_, fun h => ?_, fun h => ?_⟩
      · walk_at "cond"
        · show rows.length ≤ 16777216; lia
        · rename_i q
          have q : (((a + 1 + k : Nat) : Int)) < (rows.length : Int) := of_decide_eq_true q
          exact ⟨(by lia : (0 : Int) ≤ ((a + 1 + k : Nat) : Int)), q, (by show rows.length ≤ 1048576; lia)⟩
      · have h : (decide (((a + 1 + k : Nat) : Int) < (rows.length : Int)) && ((rows.getD (((a + 1 + k : Nat) : Int)).toNat [] != [10]) && true)) = true := h
        rw [Bool.and_true, Bool.and_eq_true, decide_eq_true_iff, bne_iff_ne, show (((a + 1 + k : Nat) : Int)).toNat = a + 1 + k by lia] at h
        cases e : rows.drop (a + 1 + k) with
        | nil => have := List.drop_eq_nil_iff.mp e; lia
        | cons r t =>
          obtain ⟨e0, e1, e2⟩ := item_rl e
          rw [e0] at h
          rw [e, pkRows_cons, if_neg h.2] at g1
          have hrl : r.length ≤ 4096 := hb2 r (List.mem_of_mem_drop (i := a + 1 + k) (by rw [e]; exact .head _))
          have hbl := bare_len r
          refine G.let1 (n := 12) (p := optB (partOf (bare (rows.getD (a + 1 + k) [])))) hT rfl ?_ rfl (by show (_ || !false) = true; rw [Bool.not_false, Bool.or_true]) ?_
          · walk_at "cond"
            · exact ⟨(by lia : (0 : Int) ≤ ((a + 1 + k : Nat) : Int)), (by show ((a + 1 + k : Nat) : Int) < (rows.length : Int); lia), (by show rows.length ≤ 1048576; lia)⟩
            · show (rows.getD (a + 1 + k) []).length ≤ 1048576; rw [e0]; lia
            · show (bare (rows.getD (a + 1 + k) [])).length ≤ 65536; rw [e0]; lia
          rw [e0]
          cases hp : partOf (bare r) with
          | none =>
            rw [hp] at g1
            refine Runs.ite (n := 9) hT rfl trivial (fun _ => ?_) fun h => nomatch h
            refine Runs.ret (n := 9) hT rfl trivial ?_
            rw [hdue, g1]; rfl
          | some p =>
            rw [hp] at g1
            have hpl := part_len hp
            refine Runs.ite (n := 9) hT rfl trivial (fun h => nomatch h) fun _ => ?_
            refine G.letT (n := 9) hT rfl (by walk_at "cond"; exact (show pk'.length + p.length ≤ 16777216 by lia)) rfl rfl trivial (Runs.nil ⟨(k + 1, pk' ++ p), ⟨?_, ?_, ?_⟩, ?_, .cons rfl (.cons rfl (.cons rfl (.cons rfl (.cons ?_ .nil)))), fun _ h => nomatch h⟩)
            · show pkRows (rows.drop (a + 1)) = (pkRows (rows.drop (a + 1 + (k + 1)))).map fun x => (pk' ++ p ++ x.1, x.2 + (k + 1))
              rw [show a + 1 + (k + 1) = a + 1 + k + 1 by lia, e2, g1, Option.map_map]
              congr 1
              funext x
              show (pk' ++ (p ++ x.1), x.2 + 1 + k) = _
              rw [List.append_assoc, show x.2 + 1 + k = x.2 + (k + 1) by lia]
            · show (pk' ++ p).length ≤ 52 * (k + 1)
              rw [List.length_append]; lia
            · show a + 1 + (k + 1) ≤ _; lia
            · show rows.length - (a + 1 + (k + 1)) < rows.length - (a + 1 + k); lia
            · show some (PV.int (((a + 1 + k : Nat) : Int) + 1)) = some (.int (((a + 1 + (k + 1) : Nat)) : Int))
              congr 2
      · have h : (decide (((a + 1 + k : Nat) : Int) < (rows.length : Int)) && ((rows.getD (((a + 1 + k : Nat) : Int)).toNat [] != [10]) && true)) = false := h
        refine G.let1 (n := 9) (p := optB (unp pk')) hT rfl (by walk_at "cond"; exact (show pk'.length ≤ 65536 by lia)) rfl (by show (_ || !false) = true; rw [Bool.not_false, Bool.or_true]) ?_
        have hT2 := hT.fn (N_l_number hW) (K_l_number hW) ((w_l_number (lv := lv) hW).int)
        have hend : a + 1 + k = rows.length → pkRows (rows.drop (a + 1)) = none := fun q => by
          rw [g1, List.drop_eq_nil_of_le (by lia)]; rfl
        have hstop : a + 1 + k ≠ rows.length → pkRows (rows.drop (a + 1)) = some (pk', k) := fun q => by
          have hlt : a + 1 + k < rows.length := by lia
          rw [decide_eq_true (by lia), Bool.true_and, Bool.and_true, show (((a + 1 + k : Nat) : Int)).toNat = a + 1 + k by lia, bne_eq_false_iff_eq] at h
          cases e : rows.drop (a + 1 + k) with
          | nil => have := List.drop_eq_nil_iff.mp e; lia
          | cons r t =>
            obtain ⟨e0, e1, e2⟩ := item_rl e
            rw [e0] at h
            rw [g1, e, pkRows_cons, if_pos h]
            show some (pk' ++ [], 0 + k) = _
            rw [List.append_nil, Nat.zero_add]
        cases hu : unp pk' with
        | none =>
          refine Runs.ite (n := 9) hT rfl (by walk_at "cond"; exact (show rows.length ≤ 16777216 by lia); exact rfl) (fun _ => ?_) fun hh => ?_
          · refine Runs.ret (n := 9) hT rfl trivial ?_
            by_cases q : a + 1 + k = rows.length
            · rw [hdue, hend q]; rfl
            · rw [hdue, hstop q]
              dsimp only
              rw [hu]; rfl
          · have hh : ((((a + 1 + k : Nat) : Int) == (rows.length : Int)) || true) = false := hh
            rw [Bool.or_true] at hh; cases hh
        | some o =>
          have hol : o.length ≤ pk'.length := unp_len hu
          have hnum : (numOf (ws.getD 1 [])).getD 0 = n := by rw [hn]; rfl
          refine Runs.ite (n := 9) hT2 rfl ?_ (fun hh => ?_) fun hh => ?_
          · walk_at "cond"
            · show rows.length ≤ 16777216; lia
            · show o.length ≤ 16777216; lia
            · exact ⟨(by decide : (0 : Int) ≤ 1), (by show (1 : Int) < (ws.length : Int); lia), (by show ws.length ≤ 1048576; lia)⟩
            · refine ⟨by show (numOf (ws.getD 1 [])).isSome = true; rw [hn]; rfl, ?_⟩
              show (ws.getD 1 []).length ≤ 65536; lia
          · have hh : ((((a + 1 + k : Nat) : Int) == (rows.length : Int)) || (false || (((o.length : Int) != (numOf (ws.getD 1 [])).getD 0) || false))) = true := hh
            rw [hnum, Bool.false_or, Bool.or_false, Bool.or_eq_true, beq_iff_eq, bne_iff_ne] at hh
            refine Runs.ret (n := 9) hT rfl trivial ?_
            by_cases q : a + 1 + k = rows.length
            · rw [hdue, hend q]; rfl
            · rw [hdue, hstop q]
              dsimp only
              rw [hu]
              dsimp only
              rw [if_neg (by lia)]; rfl
          · have hh : ((((a + 1 + k : Nat) : Int) == (rows.length : Int)) || (false || (((o.length : Int) != (numOf (ws.getD 1 [])).getD 0) || false))) = false := hh
            rw [hnum, Bool.false_or, Bool.or_false, Bool.or_eq_false_iff, beq_eq_false_iff_ne, bne_eq_false_iff_eq] at hh
            have hD : D = some (ws.getD 0 [], o, (a : Int) + k + 2) := by
              rw [hdue, hstop (by lia)]
              dsimp only
              rw [hu]
              dsimp only
              rw [if_pos hh.2]
            rw [hD]
            refine Runs.ret (n := 12) hT rfl ?_ ?_
            · walk_at "cond"
              · exact ⟨(by decide : (0 : Int) ≤ 0), (by show (0 : Int) < (ws.length : Int); lia), (by show ws.length ≤ 1048576; lia)⟩
              · refine comp_cond (by show (ws.getD 0 []).length ≤ _; lia) fun x _ => ?_
                exact metS_of rfl (by walk_at "cond"; exact ⟨(show (0 : Int) ≤ (x.toNat : Int) by lia), (show (x.toNat : Int) ≤ 0x10FFFF by have := x.toNat_lt; lia)⟩)
              · rw [comp_str (F := fun a : UInt8 => ⟨#[a.toNat]⟩) fun a _ => rfl]
                show (((ws.getD 0 []).map fun a : UInt8 => (⟨#[a.toNat]⟩ : Str)).map (·.length)).sum + ((ws.getD 0 []).map fun a : UInt8 => (⟨#[a.toNat]⟩ : Str)).length * 0 ≤ 16777216
                rw [one_sum (fun _ => rfl)]
                lia
            · rw [comp_str (F := fun a : UInt8 => ⟨#[a.toNat]⟩) fun a _ => rfl]
              show Out.ret (.pair (.pair (.str (Txt.join ⟨#[]⟩ ((ws.getD 0 []).map fun a : UInt8 => (⟨#[a.toNat]⟩ : Str)))) (.bytes o)) (.int (((a + 1 + k : Nat) : Int) + 1))) = Out.ret (tellPV (ws.getD 0 [], o, (a : Int) + k + 2))
              rw [text_val, show (((a + 1 + k : Nat) : Int) + 1) = (a : Int) + k + 2 by lia]; rfl
end

/-! the round trip, without a program -/
theorem sg_fi_at (n : Nat) (h : n < 85) : findB SG [SG.getD n 0] = (n : Int) := by
  rw [findB_one (by rw [SG_len']; decide)]
  exact sg_at n h
theorem fi_sg {n : Int} (h0 : 0 ≤ n) (h1 : n < 85) : fi (sg n) = n := by
  obtain ⟨k, rfl⟩ := Int.eq_ofNat_of_zero_le h0
  exact sg_fi_at k (by lia)
theorem num5_five {n : Int} (h0 : 0 ≤ n) (h1 : n < 4294967296) : num5 0 (five n) = some n := by
  show num5 0 [sg (n / 85 / 85 / 85 / 85 % 85), sg (n / 85 / 85 / 85 % 85), sg (n / 85 / 85 % 85), sg (n / 85 % 85), sg (n % 85)] = some n
  have e : ∀ k : Int, fi (sg (k % 85)) = k % 85 := fun k => fi_sg (Int.emod_nonneg _ (by decide)) (Int.emod_lt_of_pos _ (by decide))
  simp only [num5_cons, e]
  rw [if_neg (by lia), if_neg (by lia), if_neg (by lia), if_neg (by lia), if_neg (by lia)]
  show some _ = _
  congr 1
  lia
theorem val4 (a b c d : UInt8) : valAt 0 [a, b, c, d] = 256 * (256 * (256 * (a.toNat : Int) + b.toNat) + c.toNat) + d.toNat := by
  simp only [valAt]
  lia
theorem be_val4 (a b c d : UInt8) : be (valAt 0 [a, b, c, d]) = [a, b, c, d] := by
  have ha := a.toNat_lt; have hb := b.toNat_lt; have hc := c.toNat_lt; have hd := d.toNat_lt
  rw [val4]
  unfold be
  rw [show (256 * (256 * (256 * (a.toNat : Int) + b.toNat) + c.toNat) + d.toNat) / 16777216 % 256 = a.toNat by lia,
    show (256 * (256 * (256 * (a.toNat : Int) + b.toNat) + c.toNat) + d.toNat) / 65536 % 256 = b.toNat by lia,
    show (256 * (256 * (256 * (a.toNat : Int) + b.toNat) + c.toNat) + d.toNat) / 256 % 256 = c.toNat by lia,
    show (256 * (256 * (256 * (a.toNat : Int) + b.toNat) + c.toNat) + d.toNat) % 256 = d.toNat by lia,
    ofU8', ofU8', ofU8', ofU8']
theorem val4_lt (a b c d : UInt8) : 0 ≤ valAt 0 [a, b, c, d] ∧ valAt 0 [a, b, c, d] < 4294967296 := by
  have ha := a.toNat_lt; have hb := b.toNat_lt; have hc := c.toNat_lt; have hd := d.toNat_lt
  rw [val4]; lia
theorem four {l : List UInt8} (h : l.length = 4) : ∃ a b c d, l = [a, b, c, d] := by
  match l, h with
  | [a, b, c, d], _ => exact ⟨a, b, c, d, rfl⟩
theorem pad4_len {l : List UInt8} (h : l.length ≤ 4) : (pad4 l).length = 4 := by unfold pad4; rw [List.length_append, List.length_replicate]; lia
theorem five_len5 (n : Int) : (five n).length = 5 := by show (fiveGo 5 n []).length = 5; rw [five_len]; rfl
/-- the octets that a row tells, filled up -/
noncomputable def padAll (k : Nat) (l : List UInt8) : List UInt8 := l ++ List.replicate (4 * k - l.length) 0
theorem dec_enc : ∀ (k : Nat) (l : List UInt8), l.length ≤ 4 * k → 4 * k < l.length + 4 → dec5 k (enc4 k l) = some (padAll k l)
  | 0, l, h, _ => by
    have : l = [] := List.eq_nil_of_length_eq_zero (by lia)
    subst this; rfl
  | k + 1, l, h, h2 => by
    obtain ⟨a, b, c, d, hp⟩ := four (pad4_len (l := l.take 4) (by rw [List.length_take]; lia))
    obtain ⟨v1, v2⟩ := val4_lt a b c d
    rw [dec5_succ, enc4_succ]
    have ht : (five (valAt 0 (pad4 (l.take 4))) ++ enc4 k (l.drop 4)).take 5 = five (valAt 0 (pad4 (l.take 4))) := List.take_left' (five_len5 _)
    have hd : (five (valAt 0 (pad4 (l.take 4))) ++ enc4 k (l.drop 4)).drop 5 = enc4 k (l.drop 4) := List.drop_left' (five_len5 _)
    rw [ht, hd, hp, num5_five v1 v2]
    show (if 4294967296 ≤ valAt 0 [a, b, c, d] then none else (dec5 k (enc4 k (l.drop 4))).map (be (valAt 0 [a, b, c, d]) ++ ·)) = _
    rw [if_neg (by lia), be_val4, ← hp]
    by_cases hk : l.length ≤ 4
    · have hk0 : k = 0 := by lia
      subst hk0
      show some (pad4 (l.take 4) ++ []) = _
      rw [List.append_nil, List.take_of_length_le hk]
      rfl
    · have h1 : (l.drop 4).length = l.length - 4 := List.length_drop
      rw [dec_enc k (l.drop 4) (by lia) (by lia)]
      show some (pad4 (l.take 4) ++ padAll k (l.drop 4)) = some (padAll (k + 1) l)
      congr 1
      unfold pad4 padAll
      rw [show 4 - (l.take 4).length = 0 by rw [List.length_take]; lia, List.replicate_zero, List.append_nil, ← List.append_assoc, List.take_append_drop, h1, show 4 * k - (l.length - 4) = 4 * (k + 1) - l.length by lia]
theorem many_LT : ∀ n : Nat, n < 52 → manyOf (LT.getD n 0) = n + 1 := by decide +kernel
theorem part_row {p : List UInt8} (h1 : 1 ≤ p.length) (h2 : p.length ≤ 52) : partOf (rowOf p) = some p := by
  have hm : manyOf (LT.getD (p.length - 1) 0) = p.length := by rw [many_LT _ (by lia)]; lia
  unfold rowOf
  rw [partOf_cons, hm, enc4_len, if_neg (by lia), dec_enc _ _ (by lia) (by lia)]
  show some ((padAll _ p).take p.length) = _
  rw [show (padAll ((p.length + 3) / 4) p).take p.length = p from List.take_left' rfl]
theorem bare_app (r : List UInt8) : bare (r ++ [10]) = r := by
  unfold bare
  rw [List.length_append, show r.length + ([10] : List UInt8).length - 1 = r.length from rfl, List.drop_left' rfl, if_pos rfl, List.dropLast_append_of_ne_nil (by simp)]
  simp
theorem pk_rows : ∀ (k : Nat) (l : List UInt8) (t : List (List UInt8)), l.length ≤ 52 * k → 52 * k < l.length + 52 → (∀ r ∈ rowsGo k l, r ≠ [10]) → pkRows (rowsGo k l ++ [10] :: t) = some (l, k)
  | 0, l, t, h, _, _ => by
    have : l = [] := List.eq_nil_of_length_eq_zero (by lia)
    subst this
    show pkRows ([10] :: t) = _
    rw [pkRows_cons, if_pos rfl]
  | k + 1, l, t, h, h2, h3 => by
    rw [rowsGo_succ] at h3 ⊢
    rw [List.cons_append, pkRows_cons, if_neg (h3 _ (.head _)), bare_app, part_row (by rw [List.length_take]; lia) (by rw [List.length_take]; lia)]
    have hk : k = 0 ∨ 52 < l.length := by lia
    have h1 : (l.drop 52).length = l.length - 52 := List.length_drop
    show (pkRows (rowsGo k (l.drop 52) ++ [10] :: t)).map _ = _
    rcases hk with rfl | hk
    · show (pkRows ([10] :: t)).map _ = _
      rw [pkRows_cons, if_pos rfl]
      show some (l.take 52 ++ [], 0 + 1) = _
      rw [List.append_nil, List.take_of_length_le (by lia)]
    · rw [pk_rows k (l.drop 52) t (by lia) (by lia) (fun r hr => h3 r (.tail _ hr))]
      show some (l.take 52 ++ l.drop 52, k + 1) = _
      rw [List.take_append_drop]

noncomputable def wordOf (i : Bool) : Str := bif i then "delta" else "literal"
noncomputable def litOf (i : Bool) : List UInt8 := bif i then del else lit
theorem heads : ∀ i : Bool, ∀ n : Nat, n < 64 → splitB (bare (headOf (wordOf i) n)) [32] = [litOf i, octs (Str.ofString (toString (n : Int)))] := by decide +kernel
theorem nums : ∀ n : Nat, n < 64 → numOf (octs (Str.ofString (toString (n : Int)))) = some (n : Int) := by decide +kernel
theorem words_txt : ∀ i : Bool, txt (litOf i) = wordOf i := by decide +kernel
theorem words_le : ∀ i : Bool, (∀ n ∈ (wordOf i).cps.toList, n < 256) ∧ (wordOf i).cps.size ≤ 7 := by decide +kernel
theorem words_in : ∀ i : Bool, (litOf i == lit || litOf i == del) = true := by decide +kernel
theorem rows_ne {k : Nat} : ∀ {l : List UInt8}, ∀ r ∈ rowsGo k l, r ≠ [10] ∧ r.length ≤ 67 := by
  induction k with
  | zero => intro l r h; cases h
  | succ k ih =>
    intro l r h
    rw [rowsGo_succ] at h
    rcases List.mem_cons.mp h with rfl | h
    · refine ⟨fun q => ?_, ?_⟩
      · have := congrArg List.length q
        rw [List.length_append] at this
        have h2 : 1 ≤ (rowOf (l.take 52)).length := by show 1 ≤ (enc4 _ _).length + 1; lia
        have h3 : ([10] : List UInt8).length = 1 := rfl
        lia
      · rw [List.length_append]
        show (enc4 _ _).length + 1 + 1 ≤ 67
        rw [enc4_len, List.length_take]; lia
    · exact ih r h
theorem rowsGo_len : ∀ (k : Nat) (l : List UInt8), (rowsGo k l).length = k
  | 0, _ => rfl
  | k + 1, l => by rw [rowsGo_succ, List.length_cons, rowsGo_len k]
theorem unp_pk {b : List UInt8} (h : b.length < 64) : unp (pk b) = some b := by
  have e : (b.length.toUInt8).toNat = b.length := toU8 (by lia)
  unfold unp pk
  rw [szGo_cons, e, if_pos (by lia)]
  exact if_pos rfl
theorem written_len {w : Str} {b : List UInt8} : (written w b).length = (b.length + 52) / 52 + 2 := by
  unfold written
  rw [List.length_append, List.length_cons, rowsGo_len]; rfl
/-- what a written part tells -/
theorem due_written (i : Bool) {b : List UInt8} (hb : b.length < 64) (ahead t : List (List UInt8)) : due (ahead ++ written (wordOf i) b ++ t) ahead.length = some (litOf i, b, ((ahead.length + (written (wordOf i) b).length : Nat) : Int)) := by
  have hl : (pk b).length = b.length + 1 := rfl
  have e0 : (ahead ++ written (wordOf i) b ++ t).getD ahead.length [] = headOf (wordOf i) b.length := by
    rw [List.append_assoc, List.getD_eq_getElem?_getD, List.getElem?_append_right (Nat.le_refl _), Nat.sub_self]; rfl
  have e1 : (ahead ++ written (wordOf i) b ++ t).drop (ahead.length + 1) = rowsGo ((b.length + 52) / 52) (pk b) ++ [10] :: t := by
    rw [List.append_assoc, ← List.drop_drop, List.drop_left' rfl]
    show rowsGo _ _ ++ [[10]] ++ t = _
    rw [List.append_assoc]; rfl
  unfold due
  rw [e0, e1, heads i _ hb]
  unfold dueFrom
  have hok : wordsOk [litOf i, octs (Str.ofString (toString (b.length : Int)))] = true := words_in i
  rw [if_pos hok]
  show (match numOf (octs (Str.ofString (toString (b.length : Int)))) with | some n => _ | none => _) = _
  rw [nums _ hb, pk_rows _ _ _ (by lia) (by lia) fun r hr => (rows_ne r hr).1]
  dsimp only
  rw [unp_pk hb]
  dsimp only
  rw [if_pos rfl, written_len]
  congr 3
theorem due_end {rows : List (List UInt8)} : due rows rows.length = none := by
  unfold due
  rw [show rows.getD rows.length [] = [] from by rw [List.getD_eq_getElem?_getD, List.getElem?_eq_none (Nat.le_refl _)]; rfl]
  exact (by unfold dueFrom; rw [show wordsOk (splitB (bare []) [32]) = false from by decide +kernel]; rfl)

noncomputable def resRead : List PV → Out
  | [.rl rows, .int a, _] => if (due rows a.toNat).isSome = true then .ret (duePV (due rows a.toNat)) else .exc 81
  | _ => .exc 0
noncomputable def domRead (ps : List PV) : Prop := ∃ rows, ∃ a : Nat, ps = [.rl rows, .int (a : Int), .codec] ∧ Bd rows ∧ a ≤ rows.length
theorem split_nil : wordsOk (splitB (bare []) [32]) = false := by decide +kernel
theorem dueFrom_no {ws rs : List (List UInt8)} {t : Int} (h : wordsOk ws = false) : dueFrom ws rs t = none := by unfold dueFrom; rw [h]; rfl
theorem unp_none {b : List UInt8} (h : unpRaw b = none) : unp b = none := by
  unfold unpRaw at h
  unfold unp
  cases e : szGo b with
  | none => rfl
  | some x =>
    rw [e] at h
    dsimp only at h ⊢
    split at h
    · rw [if_neg (by lia)]
    · cases h
theorem unpRaw_len {b ct : List UInt8} {bh : Int} (h : unpRaw b = some (ct, bh)) : ct.length ≤ b.length := by
  unfold unpRaw at h
  cases e : szGo b with
  | none => rw [e] at h; cases h
  | some x =>
    rw [e] at h
    dsimp only at h
    split at h
    · cases h
    · cases h
      have := szGo_len e
      rw [List.length_take]; lia
theorem unp_some {b ct o : List UInt8} {bh : Int} (h : unpRaw b = some (ct, bh)) (g : unp b = some o) : o = ct ∧ bh = (b.length : Int) ∧ o = ct := by
  unfold unpRaw at h
  unfold unp at g
  cases e : szGo b with
  | none => rw [e] at h; cases h
  | some x =>
    rw [e] at h g
    dsimp only at h g
    split at g
    · rename_i q
      cases g
      split at h
      · cases h
      · cases h
        rw [q, List.take_of_length_le (Nat.le_refl _)]
        exact ⟨rfl, by lia, rfl⟩
    · cases g
theorem unp_whole {b ct : List UInt8} {bh : Int} (h : unpRaw b = some (ct, bh)) (g : bh = (b.length : Int)) : unp b = some ct := by
  unfold unpRaw at h
  unfold unp
  cases e : szGo b with
  | none => rw [e] at h; cases h
  | some x =>
    rw [e] at h
    dsimp only at h ⊢
    split at h
    · cases h
    · cases h
      have hx : x.1 = x.2.length := by lia
      rw [if_pos hx, hx, List.take_of_length_le (Nat.le_refl _)]
section
variable {X : Exc} {W : Wd} {lv : Nat} {P : Params} {scope : Scope} {cel loc : Loc} {own : List Str} {rest : List Stmt} {K : Out → Prop}
theorem w_read_runs (hW : W.K = KK P) : ∀ ps, domRead ps → ps.length = [("rows" : Str), "at", "codec"].length ∧ (∀ l o, ¬ Out.next l o = resRead ps) ∧ Runs XAt W (lv + 4) (fScope (St 25)) [] ([("rows" : Str), "at", "codec"].zip ps) [] (fBody (St 25)) (fun o => o = resRead ps) := by
  refine fun ps ⟨rows, a, hp, ⟨hb1, hb2⟩, ha⟩ => ?_
  subst hp
  refine ⟨rfl, fun l o h => ite_next h, ?_⟩
  have hT := (((T0_ok (lv := lv + 4) hW).fn (N_patch_row hW) (K_patch_row hW) (w_patch_row (lv := lv + 3) hW)).fn (N_text_of hW) (K_text_of2 hW) (w_text_of (lv := lv + 3) hW))
  have hTt := hT.fn (N_told_number hW) (K_told_number hW) ((w_told' (lv := lv) hW).mono (lv' := lv + 4) (by lia))
  have hTo := hT.fn (N_octets_of_row_85 hW) (K_octets_of_row_85 hW) ((w_octets_of_row' (lv := lv) hW).mono (lv' := lv + 4) (by lia))
  have hTu := hT.me hW get_unpack find_unpack fn_unpack (K_unpack hW) (w_unpack' (lv := lv) hW)
  show Runs _ _ _ _ _ _ _ _ (fun o => o = if (due rows (a : Int).toNat).isSome = true then .ret (duePV (due rows (a : Int).toNat)) else .exc 81)
  rw [show (a : Int).toNat = a by lia]
  have hra : (rows.getD a []).length ≤ 4096 := getD_len hb2
  have hba := bare_len (rows.getD a [])
  have hws := split_sizes (bare (rows.getD a [])) [32]
  have hwl := splitB_len (bare (rows.getD a [])) [32]
  refine G.let1 (n := 12) (p := .rl (bif decide ((a : Int) < (rows.length : Int)) then splitB (bare (rows.getD a [])) [32] else [])) hT rfl ?_ rfl rfl ?_
  · walk_at "cond"
    · rfl
    · show rows.length ≤ 16777216; lia
    · rename_i q
      have q : (a : Int) < (rows.length : Int) := of_decide_eq_true q
      exact ⟨(by lia : (0 : Int) ≤ (a : Int)), q, (by show rows.length ≤ 1048576; lia)⟩
    · show (rows.getD a []).length ≤ 1048576; lia
    · exact ⟨(fun h => nomatch h), (by show (bare (rows.getD a [])).length ≤ 1048576; lia)⟩
    · show 0 ≤ 16777216; decide
  have hD : due rows a = dueFrom (bif decide ((a : Int) < (rows.length : Int)) then splitB (bare (rows.getD a [])) [32] else []) (rows.drop (a + 1)) a := by
    by_cases q : a < rows.length
    · rw [decide_eq_true (by lia)]; rfl
    · rw [decide_eq_false (by lia)]
      unfold due
      rw [show rows.getD a [] = [] from by rw [List.getD_eq_getElem?_getD, List.getElem?_eq_none (by lia)]; rfl, dueFrom_no split_nil, dueFrom_no (by rfl)]
  have hwl2 : (bif decide ((a : Int) < (rows.length : Int)) then splitB (bare (rows.getD a [])) [32] else []).length ≤ 5000 ∧ ∀ x ∈ (bif decide ((a : Int) < (rows.length : Int)) then splitB (bare (rows.getD a [])) [32] else []), x.length ≤ 4096 := by
    cases decide ((a : Int) < (rows.length : Int))
    · exact ⟨by show 0 ≤ 5000; lia, fun _ h => nomatch h⟩
    · exact ⟨by show (splitB (bare (rows.getD a [])) [32]).length ≤ 5000; lia, fun x h => Nat.le_trans (hws x h) (by lia)⟩
  generalize (bif decide ((a : Int) < (rows.length : Int)) then splitB (bare (rows.getD a [])) [32] else []) = ws at *
  obtain ⟨hwl2, hws2⟩ := hwl2
  have hw0 : (ws.getD 0 []).length ≤ 4096 := getD_len hws2
  have hw1 : (ws.getD 1 []).length ≤ 4096 := getD_len hws2
  rw [hD]
  refine Runs.ite (n := 12) hT rfl ?_ (fun h => ?_) fun h => ?_
  · walk_at "cond"
    · show ws.length ≤ 16777216; lia
    · rename_i q
      have q : ((ws.length : Int) != 2) = false := q
      rw [bne_eq_false_iff_eq] at q
      exact ⟨(by decide : (0 : Int) ≤ 0), (by show (0 : Int) < (ws.length : Int); lia), (by show ws.length ≤ 1048576; lia)⟩
    · show 2 ≤ 64; decide
  · have h : (((ws.length : Int) != 2) || ((!([lit, del].any (· == ws.getD 0 []))) || false)) = true := h
    rw [words_val, Bool.or_false, Bool.or_eq_true, bne_iff_ne, Bool.not_eq_true'] at h
    have hno : wordsOk ws = false := by
      unfold wordsOk
      rw [Bool.and_eq_false_iff, decide_eq_false_iff_not]
      exact h.imp (fun q => by lia) id
    rw [dueFrom_no hno]
    exact Runs.raise (lv := lv + 2) (n := 9) hT (X_patch hW) rfl rfl trivial rfl
  · have h : (((ws.length : Int) != 2) || ((!([lit, del].any (· == ws.getD 0 []))) || false)) = false := h
    rw [words_val, Bool.or_false, Bool.or_eq_false_iff, bne_eq_false_iff_eq, Bool.not_eq_false'] at h
    obtain ⟨l1, l2⟩ := h
    have hok : wordsOk ws = true := by
      unfold wordsOk
      rw [l2, decide_eq_true (by lia)]; rfl
    have item1 : (0 : Int) ≤ 1 ∧ (1 : Int) < (ws.length : Int) ∧ ws.length ≤ 1048576 := ⟨by decide, by lia, by lia⟩
    cases hn : numOf (ws.getD 1 []) with
    | none =>
      rw [show dueFrom ws (rows.drop (a + 1)) a = none from by unfold dueFrom; rw [if_pos hok, hn]]
      refine Runs.excAssign (raise_call (n := 9) (dom := domTold) (KK := fun ps o => o = resTold ps) hT (N_told_number hW) (K_told_number hW) ((w_told_number (lv := lv) hW).mono (lv' := lv + 4) (by lia)) rfl rfl rfl (by walk_at "cond"; exact item1) ⟨ws.getD 1 [], _, rfl, by lia⟩ fun o ho => ho.trans ?_) rfl rfl
      show (if (numOf (ws.getD 1 [])).isSome = true then _ else _) = _
      rw [hn]; rfl
    | some n =>
    have hdue : dueFrom ws (rows.drop (a + 1)) a = match pkRows (rows.drop (a + 1)) with
        | some x => match unp x.1 with
          | some o => if (o.length : Int) = n then some (ws.getD 0 [], o, (a : Int) + x.2 + 2) else none
          | none => none
        | none => none := by
      unfold dueFrom
      rw [if_pos hok, hn]
      all_goals rfl
    generalize dueFrom ws (rows.drop (a + 1)) a = D at *
    refine G.let1 (n := 9) (p := .int ((numOf (ws.getD 1 [])).getD 0)) hTt rfl ?_ rfl rfl ?_
    · walk_at "cond"
      · exact item1
      · refine ⟨by show (numOf (ws.getD 1 [])).isSome = true; rw [hn]; rfl, ?_⟩
        show (ws.getD 1 []).length ≤ 65536; lia
    rw [show (numOf (ws.getD 1 [])).getD 0 = n by rw [hn]; rfl]
    refine Runs.step (augAdd (n := 9) hT rfl rfl rfl trivial) (Runs.step (assignF_ok (n := 9) (p := .ba []) (sp := sBa) hT (nm_bi hW (by kernel_rfl) (by kernel_rfl) (by kernel_rfl)) keeps_type ba_fr rfl rfl rfl trivial rfl trivial rfl rfl) ?_)
    refine G.while_ (n := 12) (σ := Nat × List UInt8) hT (fun y => [("rows", .rl rows), ("codec", .codec), ("parts", .rl ws), ("size", .int n), ("packed", .ba y.2), ("at", .int (((a + 1 + y.1 : Nat)) : Int))]) ["packed"]
      (fun y => pkRows (rows.drop (a + 1)) = (pkRows (rows.drop (a + 1 + y.1))).map (fun x => (y.2 ++ x.1, x.2 + y.1)) ∧ y.2.length ≤ 52 * y.1 ∧ (a + 1 + y.1 ≤ rows.length ∨ y.1 = 0)) (fun y => rows.length - (a + 1 + y.1)) (0, []) ?_ (fun _ h => h) ⟨?_, by decide, .inr rfl⟩ fun y hy => ?_
    · exact .cons rfl (.cons rfl (.cons rfl (.cons rfl (.cons rfl (.cons rfl .nil)))))
    · show pkRows (rows.drop (a + 1)) = (pkRows (rows.drop (a + 1))).map fun x => ([] ++ x.1, x.2 + 0)
      cases pkRows (rows.drop (a + 1)) <;> rfl
    obtain ⟨k, pk'⟩ := y
    obtain ⟨g1, g2, g3⟩ := hy
    dsimp only at g1 g2 g3
    refine ⟨_, _, rfl, ?_, fun h => ?_, fun h => ?_⟩
    · walk_at "cond"
      · show rows.length ≤ 16777216; lia
      · rename_i q
        have q : (((a + 1 + k : Nat) : Int)) < (rows.length : Int) := of_decide_eq_true q
        exact ⟨(by lia : (0 : Int) ≤ ((a + 1 + k : Nat) : Int)), q, (by show rows.length ≤ 1048576; lia)⟩
    · have h : (decide (((a + 1 + k : Nat) : Int) < (rows.length : Int)) && ((rows.getD (((a + 1 + k : Nat) : Int)).toNat [] != [10]) && true)) = true := h
      rw [Bool.and_true, Bool.and_eq_true, decide_eq_true_iff, bne_iff_ne, show (((a + 1 + k : Nat) : Int)).toNat = a + 1 + k by lia] at h
      cases e : rows.drop (a + 1 + k) with
      | nil => have := List.drop_eq_nil_iff.mp e; lia
      | cons r t =>
        obtain ⟨e0, e1, e2⟩ := item_rl e
        rw [e0] at h
        rw [e, pkRows_cons, if_neg h.2] at g1
        have hrl : r.length ≤ 4096 := hb2 r (List.mem_of_mem_drop (i := a + 1 + k) (by rw [e]; exact .head _))
        have hbl := bare_len r
        have itemr : (0 : Int) ≤ ((a + 1 + k : Nat) : Int) ∧ ((a + 1 + k : Nat) : Int) < (rows.length : Int) ∧ rows.length ≤ 1048576 := ⟨by lia, by lia, by lia⟩
        cases hp : partOf (bare r) with
        | none =>
          rw [hp] at g1
          rw [show D = none from by rw [hdue, g1]; rfl]
          refine Runs.excAug (raise_call (n := 12) (dom := domRow) (KK := fun ps o => o = resRow ps) hT (N_octets_of_row_85 hW) (K_octets_of_row_85 hW) ((w_octets_of_row (lv := lv) hW).mono (lv' := lv + 4) (by lia)) rfl rfl rfl ?_ ⟨bare (rows.getD (a + 1 + k) []), rfl, by rw [e0]; lia⟩ fun o ho => ho.trans ?_) rfl rfl rfl
          · walk_at "cond"
            · exact itemr
            · show (rows.getD (a + 1 + k) []).length ≤ 1048576; rw [e0]; lia
          · show (if (partOf (bare (rows.getD (a + 1 + k) []))).isSome = true then _ else _) = _
            rw [e0, hp]; rfl
        | some p =>
          rw [hp] at g1
          have hpl := part_len hp
          have hpg : (partOf (bare (rows.getD (a + 1 + k) []))).getD [] = p := by rw [e0, hp]; rfl
          refine Runs.step (augBa (n := 12) (b := (partOf (bare (rows.getD (a + 1 + k) []))).getD []) hTo rfl (.head _) rfl rfl ?_ (by rw [hpg]; show pk'.length + p.length ≤ 16777216; lia) rfl rfl) (Runs.step (augAdd (n := 9) hT rfl rfl rfl trivial) ?_)
          · walk_at "cond"
            · exact itemr
            · show (rows.getD (a + 1 + k) []).length ≤ 1048576; rw [e0]; lia
            · refine ⟨by show (partOf (bare (rows.getD (a + 1 + k) []))).isSome = true; rw [e0, hp]; rfl, by show (bare (rows.getD (a + 1 + k) [])).length ≤ 65536; rw [e0]; lia⟩
          rw [hpg]
          refine Runs.nil ⟨(k + 1, pk' ++ p), ⟨?_, ?_, ?_⟩, ?_, .cons rfl (.cons rfl (.cons rfl (.cons rfl (.cons rfl (.cons ?_ .nil))))), fun _ h => h⟩
          · show pkRows (rows.drop (a + 1)) = (pkRows (rows.drop (a + 1 + (k + 1)))).map fun x => (pk' ++ p ++ x.1, x.2 + (k + 1))
            rw [show a + 1 + (k + 1) = a + 1 + k + 1 by lia, e2, g1, Option.map_map]
            congr 1
            funext x
            show (pk' ++ (p ++ x.1), x.2 + 1 + k) = _
            rw [List.append_assoc, show x.2 + 1 + k = x.2 + (k + 1) by lia]
          · show (pk' ++ p).length ≤ 52 * (k + 1)
            rw [List.length_append]; lia
          · show a + 1 + (k + 1) ≤ _ ∨ _; lia
          · show rows.length - (a + 1 + (k + 1)) < rows.length - (a + 1 + k); lia
          · show some (PV.int (((a + 1 + k : Nat) : Int) + 1)) = some (.int (((a + 1 + (k + 1) : Nat)) : Int))
            congr 2
    · have h : (decide (((a + 1 + k : Nat) : Int) < (rows.length : Int)) && ((rows.getD (((a + 1 + k : Nat) : Int)).toNat [] != [10]) && true)) = false := h
      have hend : rows.length ≤ a + 1 + k → pkRows (rows.drop (a + 1)) = none := fun q => by
        rw [g1, List.drop_eq_nil_of_le (by lia)]; rfl
      have hstop : a + 1 + k < rows.length → pkRows (rows.drop (a + 1)) = some (pk', k) := fun q => by
        rw [decide_eq_true (by lia), Bool.true_and, Bool.and_true, show (((a + 1 + k : Nat) : Int)).toNat = a + 1 + k by lia, bne_eq_false_iff_eq] at h
        cases e : rows.drop (a + 1 + k) with
        | nil => have := List.drop_eq_nil_iff.mp e; lia
        | cons r t =>
          obtain ⟨e0, e1, e2⟩ := item_rl e
          rw [e0] at h
          rw [g1, e, pkRows_cons, if_pos h]
          show some (pk' ++ [], 0 + k) = _
          rw [List.append_nil, Nat.zero_add]
      refine Runs.ite (n := 9) hT rfl (by walk_at "cond"; exact (show rows.length ≤ 16777216 by lia)) (fun hh => ?_) fun hh => ?_
      · have hh : (rows.length : Int) ≤ ((a + 1 + k : Nat) : Int) := of_decide_eq_true hh
        rw [show D = none from by rw [hdue, hend (by lia)]]
        exact Runs.raise (lv := lv + 2) (n := 9) hT (X_patch hW) rfl rfl trivial rfl
      · have hh : ¬ (rows.length : Int) ≤ ((a + 1 + k : Nat) : Int) := of_decide_eq_false hh
        have hlt : a + 1 + k < rows.length := by lia
        have hdue2 : D = match unp pk' with
            | some o => if (o.length : Int) = n then some (ws.getD 0 [], o, (a : Int) + k + 2) else none
            | none => none := by rw [hdue, hstop hlt]
        have hpz : pk'.length ≤ 65536 := by lia
        cases hu : unpRaw pk' with
        | none =>
          rw [show D = none from by rw [hdue2, unp_none hu]]
          refine Runs.tryR (lv := lv + 2) (Kb := fun o => o = .exc 57) (X_bits hW) (X_patch hW) rfl rfl ?_ (fun l o h => nomatch h) (fun p h => nomatch h) fun C' h => by cases h; exact ⟨rfl, rfl⟩
          refine Runs.excAssign (raise_meth (n := 9) (po := .codec) hT (methX_codec hW get_unpack find_unpack fn_unpack (K_unpack hW) (w_unpack (lv := lv) hW)) rfl rfl trivial rfl (by walk_at "cond"; exact (show pk'.length ≤ 16777216 by lia)) ⟨pk', rfl, hpz⟩ fun o ho => ho.trans ?_) rfl rfl
          show (if (unpRaw pk').isSome = true then _ else _) = _
          rw [hu]; rfl
        | some x =>
          obtain ⟨ct, bh⟩ := x
          have hg : (unpRaw pk').getD ([], 0) = (ct, bh) := by rw [hu]; rfl
          have hct : ct.length ≤ pk'.length := unpRaw_len hu
          refine Runs.tryR (lv := lv + 2) (Kb := fun o => o = .next [("rows", .rl rows), ("codec", .codec), ("parts", .rl ws), ("size", .int n), ("packed", .ba pk'), ("at", .int (((a + 1 + k : Nat)) : Int)), ("content", .bytes ((unpRaw pk').getD ([], 0)).1), ("behind", .int ((unpRaw pk').getD ([], 0)).2)] ["packed"]) (X_bits hW) (X_patch hW) rfl rfl ?_ (fun l o h => ?_) (fun p h => nomatch h) fun C' h => nomatch h
          · refine G.letT (n := 9) hTu rfl ?_ rfl rfl trivial (Runs.nil rfl)
            walk_at "cond"
            · exact (show pk'.length ≤ 16777216 by lia)
            · exact ⟨rfl, by show (unpRaw pk').isSome = true; rw [hu]; rfl, hpz⟩
          cases h
          rw [hg]
          refine Runs.ite (n := 9) hT rfl ?_ (fun hh => ?_) fun hh => ?_
          · walk_at "cond"
            · show pk'.length ≤ 16777216; lia
            · show ct.length ≤ 16777216; lia
          · have hh : ((bh != (pk'.length : Int)) || (((ct.length : Int) != n) || false)) = true := hh
            rw [Bool.or_false, Bool.or_eq_true, bne_iff_ne, bne_iff_ne] at hh
            rw [show D = none from ?_]
            · exact Runs.raise (lv := lv + 2) (n := 9) hT (X_patch hW) rfl rfl trivial rfl
            · rw [hdue2]
              cases hq : unp pk' with
              | none => rfl
              | some o =>
                obtain ⟨z1, z2, _⟩ := unp_some hu hq
                dsimp only
                rw [if_neg]
                rw [z1]
                intro z3
                rcases hh with hh | hh
                · exact hh z2
                · exact hh z3
          · have hh : ((bh != (pk'.length : Int)) || (((ct.length : Int) != n) || false)) = false := hh
            rw [Bool.or_false, Bool.or_eq_false_iff, bne_eq_false_iff_eq, bne_eq_false_iff_eq] at hh
            have hD2 : D = some (ws.getD 0 [], ct, (a : Int) + k + 2) := by
              rw [hdue2, unp_whole hu hh.1]
              dsimp only
              rw [if_pos hh.2]
            rw [hD2]
            refine Runs.ret (n := 9) hT rfl ?_ ?_
            · walk_at "cond"
              · exact ⟨by decide, by show (0 : Int) < (ws.length : Int); lia, by show ws.length ≤ 1048576; lia⟩
              · show (ws.getD 0 []).length ≤ 1048576; lia
            · show Out.ret (.pair (.pair (.str (txt (ws.getD 0 []))) (.bytes ct)) (.int (((a + 1 + k : Nat) : Int) + 1))) = Out.ret (tellPV (ws.getD 0 [], ct, (a : Int) + k + 2))
              rw [show (((a + 1 + k : Nat) : Int) + 1) = (a : Int) + k + 2 by lia]; rfl
theorem w_read (hW : W.K = KK P) : CallXOk W (lv + 5) (.ref 180) domRead (fun ps o => o = resRead ps) := fnX_ok (D_read_binary hW) (by decide) (w_read_runs hW)
noncomputable def spRead : Spec := tR fun rows => tI fun a => tC <| tE (some (duePV (due rows a.toNat), some (Bd rows ∧ 0 ≤ a ∧ a ≤ (rows.length : Int) ∧ (due rows a.toNat).isSome = true)))
theorem w_read' (hW : W.K = KK P) : CallOk W (lv + 5) (.ref 180) spRead := (w_read hW).ret fun ps p c e hc => by
  obtain ⟨rows, ps, rfl, e1⟩ := tR_use e
  obtain ⟨a, ps, rfl, e2⟩ := tI_use e1
  obtain ⟨ps, rfl, e3⟩ := tC_use e2
  obtain ⟨rfl, e4⟩ := tE_use e3
  clear e e1 e2 e3
  · cases e4
    obtain ⟨h1, h2, h3, h4⟩ := (show _ ∧ _ ∧ _ ∧ _ from hc)
    obtain ⟨a, rfl⟩ := Int.eq_ofNat_of_zero_le h2
    exact ⟨⟨rows, a, rfl, h1, by lia⟩, fun o ho => ho.trans (if_pos h4)⟩
end

/-- an exception on its way, over a heap -/
structure XG (H : Heap) (ex : List Addr) (fs : List Env) (C e : Addr) (h : Heap) : Prop where
  up : H.UpToSlots h
  at_ : ∃ B vs n x, (∀ a o, H.get? a = some o → a ∉ ex → B.get? a = some o) ∧ B.StaysIn h ∧ B.get? e = none ∧ h.FunFrames B fs ∧ 2 < vs.size ∧ vs[2]? = some x ∧ Chain B x n ∧
    ((∃ oe, h.get? e = some oe ∧ oe.cls = .ref C ∧ oe.data = .fields vs ∧ vs[1]? = some .none) ∨ FlyA h B e C vs .none)
/-- what a call may come to, told closely -/
noncomputable def CallXXOk (W : Wd) (lv : Nat) (fv : Value) (dom : List PV → Prop) (KK : List PV → Out → Prop) : Prop :=
  ∀ (f : Fm) (s : Shared) (m : Str → Option Value) (ps : List PV) (vs : List Value) (Q E : Value → Shared → Prop), f.ok W lv → Fr f.h₀ f.L s.heap m → Reps [] s.heap ps vs → dom ps →
    (∀ p, KK ps (.ret p) → Gv s p Q) → (∀ C, KK ps (.exc C) → ∀ e h' tk, XG s.heap (f.L :: f.outs) (f.env :: f.outer) C e h' → E (.ref e) ⟨h', s.gens, s.drawn, tk, s.os⟩) → wpR (model W.prog W.w) f.A (call fv vs) Q E s
section
variable {W : Wd} {lv : Nat} {f : Fm} {s : Shared} {m : Str → Option Value} {A : Around} {E : Value → Shared → Prop} {C e : Addr} {Q : Unit → Shared → Prop} {P : Params}
theorem leaveG {M : Model} {a : Addr} {q : Str} {scope : Scope} {cd : Value} (ok : f.ok W (lv + 1)) (F : Fr f.h₀ f.L s.heap m) (hk : scope.kind = .function) {s₂ : Shared} (x : XAt (f.call s.heap a q scope cd) C e s₂.heap)
    (hq : ∀ h', XG s.heap (f.L :: f.outs) (f.env :: f.outer) C e h' → Q () { s₂ with heap := h' }) : wpAny M (f.call s.heap a q scope cd).A (leaving (f.call s.heap a q scope cd).env (.ref e)) Q E s₂ := by
  have ok' := Fm.call_ok (a := a) (q := q) (scope := scope) (cd := cd) ok F hk
  unfold leaving
  refine wpAny_bind (x.note ok' fun h1 B vs n y fl k z h2 hc u => ?_)
  refine flightA (s := { s₂ with heap := h1 }) z fun h2' z2 u2 => ?_
  refine hq h2' ⟨u.trans u2, B, vs, n, y, fun a o e1 e2 => k a o e1 fun hm => ?_, z2.base, z2.new, z2.frames.2.2, z2.sz, h2, hc, .inr z2.at_⟩
  have hm : a ∈ (f.env :: f.outer).filterMap (·.frame) := hm
  rw [List.filterMap_cons, Fm.env_frame] at hm
  exact e2 hm
theorem noteG {M : Model} {H : Heap} {ex : List Addr} (ok : f.ok W lv) (x : XG H ex (f.env :: f.outer) C e s.heap)
    (hq : ∀ h' B vs n y fl, (∀ a o, H.get? a = some o → a ∉ ex → B.get? a = some o) → FlyX B (f.env :: f.outer) e C vs fl h' → vs[2]? = some y → Chain B y n → H.UpToSlots h' → Q () { s with heap := h' }) :
    wpAny M f.A (noteFrame (.ref e) f.env) Q E s := by
  obtain ⟨B, vs, n, y, k, b, ne, ff, sz, h2, hc, x1⟩ := x.at_
  rcases x1 with ⟨oe, he, hcl, hd, h1⟩ | x1
  · exact noteA (Fm.frames ok) ff rfl he b ne hcl hd sz h1 fun h' z u => hq h' B vs n y _ k z h2 hc (x.up.trans u)
  · exact noteB (Fm.frames ok) rfl ⟨b, ne, ff, sz, x1⟩ fun h' z u => hq h' B vs n y _ k z h2 hc (x.up.trans u)
theorem fnXX_ok {a : Addr} {q : Str} {body : List Stmt} {scope : Scope} {names : List Str} {cd : Value} {dom : List PV → Prop} {KK : List PV → Out → Prop} (D : DefIs W a q body scope names cd) (nd : names.Nodup)
    (h : ∀ ps, dom ps → ps.length = names.length ∧ (∀ l o, ¬ KK ps (.next l o)) ∧ Runs XAt W lv scope [] (names.zip ps) [] body (KK ps)) : CallXXOk W (lv + 1) (.ref a) dom KK := by
  intro f s m ps vs Q E ok F hr hd g1 g2
  obtain ⟨hl, hN, hR⟩ := h ps hd
  refine call_def D nd ok F hr hl fun f' m' s' hf hg hdr hos st => ?_
  subst hf
  refine hR _ _ _ _ _ st ⟨fun l o _ _ _ k => absurd k (hN l o), fun p v m₂ h₂ tk k F₂ r₂ => ?_, fun C k => ⟨fun hd => PassesOwnAt.leaving, fun e h' tk hx => ?_⟩⟩
  · rw [hg, hdr, hos]
    exact g1 p k v h₂ tk (fun b o e => F₂.keep b o e) r₂
  · rw [hg, hdr, hos]
    exact leaveG (s₂ := ⟨h', s.gens, s.drawn, tk, s.os⟩) ok F D.kind hx fun h₂ hx₂ => g2 C k e h₂ tk hx₂
theorem w_readXX (hW : W.K = KK P) : CallXXOk W (lv + 5) (.ref 180) domRead (fun ps o => o = resRead ps) := fnXX_ok (D_read_binary hW) (by decide) (w_read_runs hW)
/-- a try whose suite raises nothing -/
theorem Runs.tryN {X : Exc} {scope : Scope} {cel loc : Loc} {own : List Str} {body rest : List Stmt} {hs : List ExceptHandler} {pos : Pos} {K Kb : Out → Prop} (hne : hs.isEmpty = false) (hb : Runs X W lv scope cel loc own body Kb)
    (h1 : ∀ l o, Kb (.next l o) → Runs X W lv scope cel l o rest K) (h2 : ∀ p, Kb (.ret p) → K (.ret p)) (h3 : ∀ C', ¬ Kb (.exc C')) : Runs X W lv scope cel loc own (.Try body hs [] [] pos :: rest) K := by
  intro f m s Q E C0 P
  refine execsR_cons ?_
  rw [arm_exec_Try]
  refine wpR_bind (wpR_standAt ?_)
  unfold tryStmt
  rw [hne]
  refine wpR_bind (wpR_attempt (wpR_mono (hb f m s (fun fl s₁ => wpR (model W.prog W.w) f.A (match fl with | .next => execs [] f.env | fl => pure fl) (fun fl s' => match fl with | .next => wpR (model W.prog W.w) f.A (execs rest f.env) Q E s' | fl => Q fl s') E s₁) (fun _ _ => False)
    C0 ⟨fun l o m' h' tk k z => ?_, fun p v m' h' tk k F r => ?_, fun C' k => absurd k (h3 C')⟩) (fun fl s₁ h => ?_) fun e s₁ h => h.elim))
  · exact wpR_pure (h1 l o k f m' _ Q E z.ok (P.after z))
  · exact wpR_pure (P.ret p v m' h' tk (h2 p k) F r)
  · cases fl <;> exact h
theorem base_G (ok : f.ok W lv) {H B : Heap} (F : Fr f.h₀ f.L H m) (k : ∀ a o, H.get? a = some o → a ∉ f.L :: f.outs → B.get? a = some o) : f.base.StaysIn B := fun a o q =>
  k a o (F.keep a o (ok.B.stays a o q)) fun hm => by
    rcases List.mem_cons.mp hm with rfl | hm
    · exact Nat.lt_irrefl _ (Nat.lt_of_lt_of_le (Heap.lt_size (ok.B.stays _ o q)) F.above)
    · rw [(ok.B.frames.mem hm).1] at q; cases q
/-- a clause that catches and sets a name to None -/
theorem caught_none {Q : Flow → Shared → Prop} {H : Heap} {x y : Str} {np yp cp hpos apos : Pos} {kd : Nat} (ok : f.ok W lv) (F : Fr f.h₀ f.L H m) (x1 : XG H (f.L :: f.outs) (f.env :: f.outer) C e s.heap) (X : XN W x C) (gx : f.env.kindOf x = some .globalImplicit) (gy : f.env.kindOf y = some .local)
    (g : ∀ (h' : Heap) (tk : Nat) (B : Heap), (∀ a o, H.get? a = some o → a ∉ f.L :: f.outs → B.get? a = some o) → (∀ b o, b ≠ f.L → B.get? b = some o → h'.get? b = some o) → (∀ a m, a ≠ f.L → H.Ns a m → h'.Ns a m) → h'.Ns f.L (fun z => if z = y then some .none else m z) → Q .next ⟨h', s.gens, s.drawn, tk, s.os⟩) :
    wpAny (model W.prog W.w) f.A (noteFrame (.ref e) f.env) (fun _ s₂ => wpAny (model W.prog W.w) f.A (setFlight (.ref e) none) (fun _ s₃ => wpAny (model W.prog W.w) f.A
      (handleBy (.ref e) f.env [.ExceptHandler (some (.Name x np)) none [.Assign [.Name y yp] (.Constant .none kd cp) apos] hpos]) Q E s₃) E s₂) E s := by
  refine noteG ok x1 fun h1 B vs n v fl k z hv hc u => ?_
  refine flightA (s := { s with heap := h1 }) z fun h2 z2 u2 => ?_
  have kb : f.base.StaysIn h2 := stays_trans (base_G ok F k) z2.base
  obtain ⟨G, I, q, p1, p2, p3, p4, sc, cd, hX, D, hfc⟩ := X.cls
  have hK := ok.XB.keeps kb
  have X1 := hX _ hK
  obtain ⟨oe, T, oT, ts, he, hcl, hd, a1, a2, a3, a4, a5⟩ := z2.at_
  obtain ⟨⟨nm, q', N, bs, sn, sub, ab', col, dd, k0, k1, k2, k3, k5, mN, hC, _⟩, _⟩ := id X1
  have hcB : (Value.ref G :: bmE).contains (.type "BaseException") = true := by simp [List.contains_cons]
  refine wpAny_handleBy_cons (codeAny_handlers_test (Name_function_global ok.k gx (loadGlobal_global (ok.TB.g.keeps kb) (mg_of ok.XB ok.TB.g X.nm) ?_) X.nd)) (by intro q; cases q)
  refine wpAny_excMatches_sub_self hC he hcl hcB (codeAny_handlers_suite ?_)
  refine flightA (s := ⟨h2, s.gens, s.drawn, s.toks, s.os⟩) z2 fun h3 z3 u3 => ?_
  have uu : H.UpToSlots h3 := (u.trans u2).trans u3
  refine wpAny_execs_cons ?_
  rw [exec_Assign_Name (hs := swaps_plain rfl)]
  refine wpAny_bind (wpAny_standAt (wpAny_bind (wpAny_pure (wpAny_bind (wpAny_standAt (wpAny_bind (wpAny_bindName ?_)))))))
  refine wpAny_storeName_local gy (uu.ns F.ns) (fun h4 hn4 hs4 => ?_) (by show (f.cs.kind == .class || (f.cs.kind == .module && f.L != mainGlobals)) = false; rw [ok.k]; rfl)
  refine wpAny_pure (wpAny_pure (g h4 _ B k (fun b o nb eb => hs4.extBut b o nb (z3.base b o eb)) (fun a m' na hn => ?_) hn4))
  obtain ⟨o, es, ep, e', r⟩ := uu.ns hn
  exact ⟨o, es, ep, hs4.extBut _ _ na e', r⟩
/-- the law's teller, called from a frame on the ground -/
theorem told_law (hW : W.K = KK P) {rows : List (List UInt8)} {a : Nat} {vs : List Value} {Q E : Value → Shared → Prop} (ho : f.outer = []) (ok : f.ok W (lv + 6)) (F : Fr f.h₀ f.L s.heap m) (hr : Reps [] s.heap [.rl rows, .int (a : Int), .codec] vs) (hb : Bd rows) (ha : a ≤ rows.length)
    (g : ∀ v h' tk, (∀ b o, b ≠ f.L → s.heap.get? b = some o → h'.get? b = some o) → h'.Ns f.L m → Rep [] h' (duePV (due rows a)) v → Q v ⟨h', s.gens, s.drawn, tk, s.os⟩) : wpR (model W.prog W.w) f.A (call (.ref 280) vs) Q E s := by
  refine call_def (D_l_told hW) (by decide) ok F hr rfl fun f' m' s' hf hg hd hos st => ?_
  subst hf
  have hfL : (f.call s.heap 280 "_law_told" (fScope (St 41)) (.ref 279)).L ≠ f.L := by
    obtain ⟨o, es, ep, e', _⟩ := F.ns
    exact Nat.ne_of_gt (Heap.lt_size e')
  have hT := (T0_ok (lv := lv + 5) hW).fn (N_read_binary hW) (K_read_binary hW) (w_read' (lv := lv) hW)
  by_cases hdu : (due rows a).isSome = true
  · have key : Runs (fun _ _ _ _ => False) W (lv + 5) (fScope (St 41)) [] ([("rows" : Str), "at", "codec"].zip [.rl rows, .int (a : Int), .codec]) [] (fBody (St 41)) (fun o => o = .ret (duePV (due rows a))) := by
      refine G.let1 (n := 9) hT rfl trivial rfl rfl ?_
      refine Runs.tryN (Kb := fun o => o = .next [("rows", .rl rows), ("at", .int (a : Int)), ("codec", .codec), ("found", duePV (due rows a))] []) rfl ?_ (fun l o h => ?_) (fun p h => nomatch h) fun C' h => nomatch h
      · refine G.let1 (n := 9) (p := duePV (due rows a)) hT rfl ⟨hb, by show (0 : Int) ≤ (a : Int); lia, by show (a : Int) ≤ (rows.length : Int); lia, hdu⟩ rfl (by show (_ || !false) = true; rw [Bool.not_false, Bool.or_true]) (Runs.nil rfl)
      · cases h
        exact Runs.ret (n := 9) hT rfl trivial rfl
    refine key _ _ _ _ _ st ⟨fun l o _ _ _ k => (nomatch k), fun p v m₂ h₂ tk k F₂ r₂ => ?_, fun C k => nomatch k⟩
    cases k
    rw [hg, hd, hos]
    refine g v h₂ tk (fun b o _ e => F₂.keep b o e) ?_ r₂
    obtain ⟨o, es, ep, e', r'⟩ := F.ns
    exact ⟨o, es, ep, F₂.keep _ _ e', r'⟩
  · refine execsR_cons (assign1_ok (n := 9) (lv := lv + 5) (scope := fScope (St 41)) (cel := []) (loc := [("rows", .rl rows), ("at", .int (a : Int)), ("codec", .codec)]) (own := []) hT ([("rows", .rl rows), ("at", .int (a : Int)), ("codec", .codec), ("found", .none)], []) none rfl trivial _ m' s' _ _ st fun m1 h1 tk1 z1 => ?_)
    refine execsR_cons ?_
    rw [arm_exec_Try]
    refine wpR_bind (wpR_standAt ?_)
    unfold tryStmt
    refine wpR_bind (wpR_attempt ?_)
    refine execsR_cons ?_
    rw [exec_Assign_Name (hs := swaps_plain rfl)]
    refine wpR_bind (wpR_standAt (wpR_bind ?_))
    have C0 := z1.ok.env
    have hd' : due rows a = none := by
      cases q : due rows a with
      | none => rfl
      | some x => rw [q] at hdu; exact absurd rfl hdu
    refine callNameR (name_fn (N_read_binary hW) rfl (by decide +kernel) C0 (callWithR (P := fun h => W.K.In h) (any_star rfl) (K_read_binary hW) (evs_ok (ev_ok hT 9).1 _ [.rl rows, .int (a : Int), .codec] none rfl trivial _ _ _ _ _ _ C0 fun us h2 tk2 k2 r2 => ⟨(C0.stays (tk := tk2) k2).heapK, ?_⟩)))
    have z2 := z1.ok.stays (tk := tk2) k2
    refine w_readXX (lv := lv) hW _ _ m1 _ us _ _ z2.ok z2.fr r2 ⟨rows, a, rfl, hb, ha⟩ (fun p hp => ?_) fun C hC e h3 tk3 hx => ?_
    · exfalso
      have hp : Out.ret p = if (due rows (a : Int).toNat).isSome = true then Out.ret (duePV (due rows (a : Int).toNat)) else .exc 81 := hp
      rw [show (a : Int).toNat = a by lia, hd'] at hp
      cases hp
    · have hC : Out.exc C = if (due rows (a : Int).toNat).isSome = true then Out.ret (duePV (due rows (a : Int).toNat)) else .exc 81 := hC
      rw [show (a : Int).toNat = a by lia, hd'] at hC
      cases hC
      refine wpR_of (wpAny_bind (wpAny_mono (caught_none (s := ⟨h3, s'.gens, s'.drawn, tk3, s'.os⟩) (lv := lv + 5) z2.ok z2.fr hx (X_patch hW) (C0.gl _ rfl) (C0.lo _ rfl) fun h4 tk4 B k1 k2' k3 hn4 => ?_) (fun _ _ h2 => wpAny_bind h2) fun _ _ x => x))
      dsimp only
      rw [execs_cons, exec_Return_some]
      simp only [bind_assoc]
      refine wpR_bind (wpR_standAt (wpR_bind (wpR_of (wpAny_Name (wpAny_loadName_local z2.ok.k (C0.lo _ rfl) hn4 (v := .none) (by exact if_pos rfl) ?_) (by decide +kernel)))))
      refine wpR_bind (wpR_pure (wpR_pure ?_))
      rw [hg, hd, hos]
      have old : ∀ b o, b ≠ f.L → s.heap.get? b = some o → b ≠ s.heap.objs.size := fun b o _ e q => by rw [q] at e; exact Nat.lt_irrefl _ (Heap.lt_size e)
      have up : ∀ b o, s.heap.get? b = some o → h2.get? b = some o := fun b o e => k2 b o (z1.kp b o (st.fr.keep b o e) (fun q => by
        have q : b = s.heap.objs.size := q
        rw [q] at e; exact Nat.lt_irrefl _ (Heap.lt_size e)) (fun ⟨_, q, _⟩ => nomatch q))
      refine g .none h4 tk4 (fun b o nb e => k2' b o (old b o nb e) (k1 b o (up b o e) fun hm => ?_)) (k3 _ _ (Ne.symm hfL) ?_) (by rw [hd']; rfl)
      · rcases List.mem_cons.mp hm with hm | hm
        · exact old b o nb e hm
        · have hm : b ∈ (f.env :: f.outer).filterMap (·.frame) := hm
          rw [List.filterMap_cons, Fm.env_frame, ho] at hm
          exact nb (List.mem_singleton.mp hm)
      · obtain ⟨o, es, ep, e', r'⟩ := F.ns
        exact ⟨o, es, ep, up _ _ e', r'⟩
end

section
variable {W : Wd} {lv : Nat} {f : Fm} {scope : Scope} {cel loc : Loc} {own : List Str} {s : Shared} {T : Tb} {m : Str → Option Value} {n : Nat} {P : Params} {X : Exc} {K : Out → Prop} {rest : List Stmt}
/-- three values, the last a new object, taken apart -/
theorem assignTf {x1 x2 x3 y : Str} {q1 q2 q3 yp cp tp up pos : Pos} {kt ku : Nat} {e1 e2 : Expr} {args : List Expr} {fv : Value} {sp : Spec} {ps : List PV} {p1 p2 p3 : PV} {c1 c2 c3 c4 : Cond} (hT : TbOk W lv T)
    (hn : NameIs W y fv) (hk : Keeps' W fv) (hco : CallFr W lv fv sp) (hg : scope.names.lookup y = some .globalImplicit) (hd : (y == ("__debug__" : Str)) = false)
    (h1 : (ev T n).1 ⟨scope.names, cel⟩ loc e1 = some (p1, c1)) (hc1 : c1.holds) (h2 : (ev T n).1 ⟨scope.names, cel⟩ loc e2 = some (p2, c2)) (hc2 : c2.holds) (h3 : evs (ev T n).1 ⟨scope.names, cel⟩ loc args = some (ps, c3)) (hc3 : c3.holds) (h4 : sp ps = some (p3, c4)) (hc4 : c4.holds)
    (hs : (isStar e1 || isStar e2) = false) (hw : swp scope.names [.Name x1 q1, .Name x2 q2, .Name x3 q3] (.Tuple [e1, e2, .Call (.Name y yp) args [] cp] ku up) = some (some [x1, x2, x3])) (hl : allLoc scope [x1, x2, x3] = true) (hne : isNil loc = false) (hx : x3 ≠ x1 ∧ x3 ≠ x2) :
    Step W lv scope cel loc own (.Assign [.Tuple [.Name x1 q1, .Name x2 q2, .Name x3 q3] kt tp] (.Tuple [e1, e2, .Call (.Name y yp) args [] cp] ku up) pos) (put x1 p1 (put x2 p2 (put x3 p3 loc)), [x3]) := by
  intro f m s Q E C g
  rw [arm_exec_Assign]
  refine wpR_bind (wpR_standAt ?_)
  show wpR _ _ (swapsWith (.Tuple [e1, e2, .Call (.Name y yp) args [] cp] ku up) (some (.Tuple [.Name x1 q1, .Name x2 q2, .Name x3 q3] kt tp)) pos.line f.env >>= _) Q E s
  rw [swaps_plain rfl]
  refine wpR_bind (wpR_pure ?_)
  simp only [Bool.false_eq_true, if_false]
  obtain ⟨s1, s2⟩ := Bool.or_eq_false_iff.mp hs
  refine wpR_bind (tupR ?_)
  rw [star_plain s1, star_plain s2, star_plain (show isStar (.Call (.Name y yp) args [] cp) = false from rfl), backTo_cons, backTo_cons, backTo_cons]
  refine splicedR_cons ((ev_ok hT n).1 _ _ e1 p1 c1 h1 hc1 f f.env s _ E C.env fun v1 g1 t1 k1 r1 => ?_)
  have C1 := C.stays (tk := t1) k1
  refine splicedR_cons ((ev_ok hT n).1 _ _ e2 p2 c2 h2 hc2 f f.env _ _ E C1.env fun v2 g2 t2 k2 r2 => ?_)
  have C2 := C1.stays (tk := t2) k2
  refine splicedR_cons (eval_fresh hT hn hk hco hg hd h3 hc3 h4 hc4 C2.env fun D g3 t3 k3 r3 hD hb => wpR_pure ?_)
  refine wpR_of (wpAny_newObj_type ?_ (by show 3 ≤ sizeLine; rw [sizeLine_eq]; decide))
  rw [swp_ok C hw]
  refine wpR_bind (wpR_pure (wpR_of ?_))
  show wpAny _ _ (do rule "assign.swapped-stores"; let items ← unpackItems _ [x1, x2, x3].length none; assignInOrder ([x1, x2, x3].reverse.map fun n => bindName f.env n) items.reverse; pure .next) Q E _
  have ht : IsTup (g3.push { cls := .type "tuple", data := .seq [v1, v2, .ref D].toArray }) g3.objs.size [v1, v2, .ref D].toArray := isTup_new _ _
  refine wpAny_bind (wpAny_rule (wpAny_bind ?_))
  rw [show ([x1, x2, x3] : List Str).length = ([v1, v2, Value.ref D].toArray).size from rfl]
  refine unpackItems_tuple rfl ht fun h₂ he => ?_
  have kk : g3.StaysIn h₂ := fun b o e => he b o (Nat.ne_of_lt (Heap.lt_size (Heap.get?_push_of_some _ e))) (Heap.get?_push_of_some _ e)
  have z : Nx W lv f scope cel own m s loc own m h₂ t3 := Nx.of_stays C (stays_trans (stays_trans k1 k2) (stays_trans k3 kk))
  have R : ∀ {p : PV} {v : Value} {hh : Heap}, Rep [] hh p v → hh.StaysIn h₂ → Rep [f.L] h₂ p v := fun r k => (r.stays k).apart z.ok.fr.ns (.inr (z.ok.lc.some_of hne))
  have a1 := R r1 (stays_trans k2 (stays_trans k3 kk))
  have a2 := R r2 (stays_trans k3 kk)
  have a3 := R r3 kk
  obtain ⟨l1, l⟩ := Bool.and_eq_true_iff.mp hl
  obtain ⟨l2, l⟩ := Bool.and_eq_true_iff.mp l
  obtain ⟨l3, _⟩ := Bool.and_eq_true_iff.mp l
  have hDs : s.heap.get? D = none := none_back (stays_trans k1 k2) hD
  have hDL : D ≠ f.L := fun q => by
    obtain ⟨o, es, ep, e', _⟩ := C.fr.ns
    rw [q, e'] at hDs; cases hDs
  refine wpAny_bind ?_
  show wpAny _ _ (assignInOrder [fun v => bindName f.env x3 v, fun v => bindName f.env x2 v, fun v => bindName f.env x1 v] [.ref D, v2, v1]) _ E _
  refine wpAny_bind (wpAny_holding (wpAny_bindName (z.storeA (own' := [x3]) a3 (isLoc_eq l3) (fun w hw => ?_) fun m1 b1 tk1 y1 kp1 _ => ?_)))
  · cases List.mem_singleton.mp hw
    exact .inr ⟨rfl, D, rfl, none_back (fun a o e => C.fr.keep a o e) hDs, ⟨hb.stays kk, hDL⟩, .inr hDs⟩
  have same1 : ∀ {p : PV} {v : Value}, Rep [f.L] h₂ p v → Rep [f.L] b1 p v := fun r => r.same fun a o na e => kp1 a o (fun q => na (q ▸ List.mem_singleton_self _)) e
  refine wpAny_bind (wpAny_holding (wpAny_bindName (y1.storeA (own' := [x3]) (same1 a2) (isLoc_eq l2) (fun w hw => ?_) fun m2 b2 tk2 y2 kp2 _ => ?_)))
  · cases List.mem_singleton.mp hw
    exact .inl ⟨hx.2, .head _⟩
  refine wpAny_bind (wpAny_holding (wpAny_bindName (y2.storeA (own' := [x3]) ((same1 a1).same fun a o na e => kp2 a o (fun q => na (q ▸ List.mem_singleton_self _)) e) (isLoc_eq l1) (fun w hw => ?_) fun m3 b3 tk3 y3 kp3 _ => ?_)))
  · cases List.mem_singleton.mp hw
    exact .inl ⟨hx.1, .head _⟩
  exact wpAny_pure (wpAny_pure (g m3 b3 tk3 y3))
/-- a call that answers one of some values -/
noncomputable def CallEx (W : Wd) (lv : Nat) (fv : Value) (dom : List PV → Prop) (post : List PV → PV → Prop) : Prop :=
  ∀ (f : Fm) (s : Shared) (ps : List PV) (vs : List Value) (Q E : Value → Shared → Prop), f.ok W lv → (∃ m, Fr f.h₀ f.L s.heap m) → Reps [] s.heap ps vs → dom ps → (∀ r, post ps r → Gv s r Q) → wpR (model W.prog W.w) f.A (call fv vs) Q E s
theorem fnE_ok {a : Addr} {q : Str} {body : List Stmt} {scope : Scope} {names : List Str} {cd : Value} {dom : List PV → Prop} {post : List PV → PV → Prop} (D : DefIs W a q body scope names cd) (nd : names.Nodup)
    (h : ∀ ps, dom ps → ps.length = names.length ∧ Runs (fun _ _ _ _ => False) W lv scope [] (names.zip ps) [] body (fun o => ∃ r, o = .ret r ∧ post ps r)) : CallEx W (lv + 1) (.ref a) dom post := by
  intro f s ps vs Q E ok ⟨m, F⟩ hr hD g
  obtain ⟨hl, hR⟩ := h ps hD
  refine call_def D nd ok F hr hl fun f' m' s' hf hg hd hos st => ?_
  subst hf
  refine hR _ _ _ _ _ st ⟨fun l o _ _ _ ⟨r, k, _⟩ => (nomatch k), fun p v m₂ h₂ tk ⟨r, k, hp⟩ F₂ r₂ => ?_, fun C ⟨r, k, _⟩ => nomatch k⟩
  cases k
  rw [hg, hd, hos]
  exact g p hp v h₂ tk (fun b o e => F₂.keep b o e) r₂
theorem divOk_mk {b : Int} (h0 : 0 < b) (h1 : b < 1000000000) : (divOk b).holds := by
  obtain ⟨n, rfl⟩ := Int.eq_succ_of_zero_lt h0
  show Cond.holds (if Nat.blt n 1000000000 = true then none else some False)
  rw [if_pos (show Nat.blt n 1000000000 = true from Nat.ble_eq_true_of_le (by show n + 1 ≤ 1000000000; lia))]
  trivial
/-- what the bender asks -/
noncomputable def domBent (ps : List PV) : Prop := ∃ rows, ∃ a : Nat, ∃ seed : Int, ps = [.rl rows, .int (a : Int), .int seed] ∧ rows.length ≤ 64 ∧ (∀ r ∈ rows, r.length ≤ 512) ∧ a + 3 ≤ rows.length ∧ 2 ≤ (splitB (bare (rows.getD a [])) [32]).length
noncomputable def postBent (ps : List PV) (r : PV) : Prop := ∃ l, r = .rl l ∧ Bd l ∧ ∃ p q, ∃ a : Nat, ps = [p, .int (a : Int), q] ∧ a < l.length
theorem fmod_nat {x y : Int} (h : 0 < y) : ∃ k : Nat, x.fmod y = (k : Int) ∧ (k : Int) < y := by
  have h1 := Int.fmod_nonneg_of_pos x h
  obtain ⟨k, hk⟩ := Int.eq_ofNat_of_zero_le h1
  exact ⟨k, hk, by have := Int.fmod_lt_of_pos x h; lia⟩
theorem bd_set {rows : List (List UInt8)} {t : Nat} {b : List UInt8} (h1 : rows.length ≤ 64) (h2 : ∀ r ∈ rows, r.length ≤ 512) (hb : b.length ≤ 4096) : Bd (rows.set t b) := by
  refine ⟨by rw [List.length_set]; lia, fun r hr => ?_⟩
  rcases List.mem_or_eq_of_mem_set hr with h | rfl
  · have := h2 r h; lia
  · exact hb
theorem len_app {a b : List UInt8} {x y : Nat} (h : a.length ≤ x) (g : b.length ≤ y) : (a ++ b).length ≤ x + y := by rw [List.length_append]; lia
theorem cut_mem {α : Type} {l : List α} {lo hi : Option Int} {x : α} (h : x ∈ cut l lo hi) : x ∈ l := List.mem_of_mem_drop (List.mem_of_mem_take h)
theorem bif_len {c : Bool} {a b : List UInt8} {n : Nat} (h : a.length ≤ n) (g : b.length ≤ n) : (bif c then a else b).length ≤ n := by cases c <;> assumption
theorem seven : ∀ x ∈ ([[108, 105, 116, 101, 114, 97, 108, 115, 32, 49, 10], [76, 105, 116, 101, 114, 97, 108, 32, 49, 10], [100, 101, 108, 116, 97, 10], [108, 105, 116, 101, 114, 97, 108, 32, 49, 32, 49, 10], [32, 108, 105, 116, 101, 114, 97, 108, 32, 49, 10], [10]] : List (List UInt8)), x.length ≤ 4096 := by decide
theorem w_l_bent (hW : W.K = KK P) : CallEx W (lv + 2) (.ref 287) domBent postBent := by
  refine fnE_ok (D_l_bent hW) (by decide) fun ps ⟨rows, a, seed, hp, hb1, hb2, ha, hw⟩ => ?_
  subst hp
  refine ⟨rfl, ?_⟩
  have hT := (T0_ok (lv := lv + 1) hW).fn (N_l_bare hW) (K_l_bare hW) (w_l_bare (lv := lv) hW)
  refine Runs.step (assignTf (n := 9) (sp := sList) hT (nm_bi hW (by kernel_rfl) (by kernel_rfl) (by kernel_rfl)) keeps_type list_fr rfl rfl rfl trivial rfl trivial rfl trivial rfl (by show rows.length ≤ 16777216; lia) rfl rfl rfl rfl (by decide)) ?_
  generalize seed.fdiv 11 = M
  have hN : ∃ N : Int, (if (rows.length : Int) - a - 2 > 1 then (rows.length : Int) - a - 2 else 1) = N ∧ 0 < N ∧ N ≤ (rows.length : Int) - a - 2 ∧ N < 1000000000 := by
    refine ⟨_, rfl, ?_, ?_, ?_⟩ <;> split <;> lia
  obtain ⟨N, hNe, hN0, hN1, hN2⟩ := hN
  obtain ⟨d, hd, hd1⟩ := fmod_nat (x := M) hN0
  refine G.let1 (n := 9) (p := .int ((a : Int) + 1 + M.fmod (if (rows.length : Int) - a - 2 > 1 then (rows.length : Int) - a - 2 else 1))) hT rfl ?_ rfl rfl ?_
  · walk_at "cond"
    · show rows.length ≤ 16777216; lia
    · exact divOk_mk (by rw [hNe]; exact hN0) (by rw [hNe]; exact hN2)
  rw [hNe, hd, show (a : Int) + 1 + (d : Int) = ((a + 1 + d : Nat) : Int) by lia]
  have ht : a + 1 + d + 1 < rows.length := by lia
  have hta : a + 1 ≤ a + 1 + d := by lia
  generalize a + 1 + d = t at *
  clear hN0 hN1 hN2 hNe hd hd1
  have item : (0 : Int) ≤ (t : Int) ∧ (t : Int) < (rows.length : Int) ∧ rows.length ≤ 1048576 := ⟨by lia, by lia, by lia⟩
  have itemA : (0 : Int) ≤ (a : Int) ∧ (a : Int) < (rows.length : Int) ∧ rows.length ≤ 1048576 := ⟨by lia, by lia, by lia⟩
  have hrt : (rows.getD t []).length ≤ 512 := getD_len hb2
  have hra : (rows.getD a []).length ≤ 512 := getD_len hb2
  have hS : ∃ S : Int, (if ((rows.getD t []).length : Int) - 2 > 1 then ((rows.getD t []).length : Int) - 2 else 1) = S ∧ 0 < S ∧ S < 1000000000 := by
    refine ⟨_, rfl, ?_, ?_⟩ <;> split <;> lia
  obtain ⟨S, hSe, hS0, hS2⟩ := hS
  obtain ⟨u, hu, _⟩ := fmod_nat (x := M.fdiv 3) hS0
  obtain ⟨g, hg, hg1⟩ := fmod_nat (x := M.fdiv 5) (y := 85) (by decide)
  refine G.letT (n := 12) (p := .pair (.int (1 + (M.fdiv 3).fmod (if ((rows.getD t []).length : Int) - 2 > 1 then ((rows.getD t []).length : Int) - 2 else 1))) (.bytes [((SG.getD ((M.fdiv 5).fmod 85).toNat 0).toNat : Int).toNat.toUInt8])) hT rfl ?_ rfl rfl trivial ?_
  · walk_at "cond"
    · exact item
    · show (rows.getD t []).length ≤ 16777216; lia
    · exact divOk_mk (by show 0 < (if ((rows.getD t []).length : Int) - 2 > 1 then ((rows.getD t []).length : Int) - 2 else 1); rw [hSe]; exact hS0) (by show (if ((rows.getD t []).length : Int) - 2 > 1 then ((rows.getD t []).length : Int) - 2 else 1) < _; rw [hSe]; exact hS2)
    · refine ⟨by show 0 ≤ (M.fdiv 5).fmod 85; rw [hg]; lia, ?_, ?_⟩
      · show (M.fdiv 5).fmod 85 < (SG.length : Int); rw [SG_len, hg]; exact hg1
      · show SG.length ≤ 1048576; rw [SG_len]; decide
    · show 1 ≤ 16777216; decide
    · exact ⟨byte_ok, (show 1 ≤ 16777216 by decide)⟩
  refine G.to (loc' := [("rows", .rl rows), ("at", .int (a : Int)), ("more", .int M), ("way", .int (seed.fmod 11)), ("some", .rl rows), ("to", .int (t : Int)), ("spot", .int ((1 + u : Nat) : Int)), ("sign", .bytes [SG.getD g 0])]) (own' := ["some"]) ?_ ?_ (fun _ h => h)
  · refine .cons rfl (.cons rfl (.cons rfl (.cons rfl (.cons rfl (.cons rfl (.cons ?_ (.cons ?_ .nil)))))))
    · show some (PV.int (1 + (M.fdiv 3).fmod (if ((rows.getD t []).length : Int) - 2 > 1 then ((rows.getD t []).length : Int) - 2 else 1))) = _
      rw [hSe, hu]
      congr 2
    · show some (PV.bytes [((SG.getD ((M.fdiv 5).fmod 85).toNat 0).toNat : Int).toNat.toUInt8]) = _
      rw [one_byte, hg]
      rfl
  clear hSe hS0 hS2 hu hg hg1
  generalize 1 + u = q
  generalize SG.getD g 0 = c
  have fin : ∀ {l : List (List UInt8)}, Bd l → a < l.length → ∃ r, Out.ret (.rl l) = Out.ret r ∧ postBent [.rl rows, .int (a : Int), .int seed] r := fun {l} h1 h2 => ⟨_, rfl, l, rfl, h1, _, _, a, rfl, h2⟩
  have cl : ∀ lo hi, (cut (rows.getD t []) lo hi).length ≤ 512 := fun lo hi => Nat.le_trans (cut_le _ _ _) hrt
  have z1 : (rows.getD t []).length ≤ 16777216 := by lia
  have setT : ∀ {b : List UInt8}, b.length ≤ 4096 → ∃ r, Out.ret (.rl (rows.set t b)) = Out.ret r ∧ postBent [.rl rows, .int (a : Int), .int seed] r := fun h => fin (bd_set hb1 hb2 h) (by rw [List.length_set]; lia)
  have setA : ∀ {b : List UInt8}, b.length ≤ 4096 → ∃ r, Out.ret (.rl (rows.set a b)) = Out.ret r ∧ postBent [.rl rows, .int (a : Int), .int seed] r := fun h => fin (bd_set hb1 hb2 h) (by rw [List.length_set]; lia)
  -- way 0
  refine Runs.ite (n := 9) hT rfl trivial (fun _ => ?_) fun _ => ?_
  · refine Runs.step (setItem_ok (n := 12) (j := (t : Int)) hT rfl rfl rfl (.head _) rfl rfl ?_ rfl trivial (by lia) (by lia) (by lia) rfl rfl) (Runs.ret (n := 9) hT rfl trivial (setT (Nat.le_trans (len_app (len_app (cl _ _) (Nat.le_refl 1)) (cl _ _)) (by decide))))
    walk_at "cond"
    · exact item
    · exact z1
    · exact Nat.le_trans (Nat.add_le_add (cl _ _) (Nat.le_refl 1)) (by decide)
    · exact item
    · exact z1
    · exact Nat.le_trans (Nat.add_le_add (len_app (cl _ _) (Nat.le_refl 1)) (cl _ _)) (by decide)
  -- way 1
  refine Runs.ite (n := 9) hT rfl trivial (fun _ => ?_) fun _ => ?_
  · refine Runs.step (setItem_ok (n := 12) (j := (t : Int)) hT rfl rfl rfl (.head _) rfl rfl ?_ rfl trivial (by lia) (by lia) (by lia) rfl rfl) (Runs.ret (n := 9) hT rfl trivial (setT (Nat.le_trans (len_app (len_app (cl _ _) (cut_le _ _ _)) (cl _ _)) (by decide))))
    walk_at "cond"
    · exact item
    · exact z1
    · show 10 ≤ 16777216; decide
    · exact Nat.le_trans (Nat.add_le_add (cl _ _) (cut_le _ _ _)) (by decide)
    · exact item
    · exact z1
    · exact Nat.le_trans (Nat.add_le_add (len_app (cl _ _) (cut_le _ _ _)) (cl _ _)) (by decide)
  -- way 2
  refine Runs.ite (n := 9) hT rfl trivial (fun _ => ?_) fun _ => ?_
  · refine Runs.step (setItem_ok (n := 12) (j := (t : Int)) hT rfl rfl rfl (.head _) rfl rfl ?_ rfl trivial (by lia) (by lia) (by lia) rfl rfl) (Runs.ret (n := 9) hT rfl trivial (setT (Nat.le_trans (len_app (Nat.le_refl 1) (cl _ _)) (by decide))))
    walk_at "cond"
    · exact item
    · exact z1
    · exact Nat.le_trans (Nat.add_le_add (Nat.le_refl 1) (cl _ _)) (by decide)
  -- way 3
  refine Runs.ite (n := 9) hT rfl trivial (fun _ => ?_) fun _ => ?_
  · refine G.let1 (n := 12) (p := .rl (cut rows none (some (t : Int)) ++ cut rows (some ((t : Int) + 1)) none)) hT rfl ?_ rfl rfl (Runs.ret (n := 9) hT rfl trivial (fin ⟨?_, fun r hr => ?_⟩ ?_))
    · walk_at "cond"
      · show rows.length ≤ 16777216; lia
      · show rows.length ≤ 16777216; lia
      · have h1 := cut_le rows none (some (t : Int)); have h2 := cut_le rows (some ((t : Int) + 1)) none
        show (cut rows none (some (t : Int))).length + (cut rows (some ((t : Int) + 1)) none).length ≤ 16777216; lia
    · have h1 := cut_le rows none (some (t : Int)); have h2 := cut_le rows (some ((t : Int) + 1)) none
      rw [List.length_append]; lia
    · rcases List.mem_append.mp hr with hr | hr
      · exact Nat.le_trans (hb2 r (cut_mem hr)) (by decide)
      · exact Nat.le_trans (hb2 r (cut_mem hr)) (by decide)
    · rw [List.length_append, cut_n, List.length_take]; lia
  -- way 4
  refine Runs.ite (n := 9) hT rfl trivial (fun _ => ?_) fun _ => ?_
  · refine G.let1 (n := 12) (p := .rl (cut rows none (some ((t : Int) + 1)) ++ cut rows (some (t : Int)) none)) hT rfl ?_ rfl rfl (Runs.ret (n := 9) hT rfl trivial (fin ⟨?_, fun r hr => ?_⟩ ?_))
    · walk_at "cond"
      · show rows.length ≤ 16777216; lia
      · show rows.length ≤ 16777216; lia
      · have h1 := cut_le rows none (some ((t : Int) + 1)); have h2 := cut_le rows (some (t : Int)) none
        show (cut rows none (some ((t : Int) + 1))).length + (cut rows (some (t : Int)) none).length ≤ 16777216; lia
    · have h1 := cut_le rows none (some ((t : Int) + 1)); have h2 := cut_le rows (some (t : Int)) none
      rw [List.length_append]; lia
    · rcases List.mem_append.mp hr with hr | hr
      · exact Nat.le_trans (hb2 r (cut_mem hr)) (by decide)
      · exact Nat.le_trans (hb2 r (cut_mem hr)) (by decide)
    · rw [List.length_append, cut_to_n rows (by lia), List.length_take]; lia
  -- way 5
  refine Runs.ite (n := 9) hT rfl trivial (fun _ => ?_) fun _ => ?_
  · have hbl := bare_len (rows.getD a [])
    have hsz := split_sizes (bare (rows.getD a [])) [32]
    have hsl := splitB_len (bare (rows.getD a [])) [32]
    refine G.let1 (n := 12) (p := .rl (splitB (bare (rows.getD a [])) [32])) hT rfl ?_ rfl rfl ?_
    · walk_at "cond"
      · exact itemA
      · exact (show (rows.getD a []).length ≤ 1048576 by lia)
      · exact ⟨(fun h => nomatch h), (show (bare (rows.getD a [])).length ≤ 1048576 by lia)⟩
    generalize splitB (bare (rows.getD a [])) [32] = ws at *
    have hw0 : (ws.getD 0 []).length ≤ 512 := Nat.le_trans (getD_len hsz) (by lia)
    have hw1 : (ws.getD 1 []).length ≤ 512 := Nat.le_trans (getD_len hsz) (by lia)
    have i0 : (0 : Int) ≤ 0 ∧ (0 : Int) < (ws.length : Int) ∧ ws.length ≤ 1048576 := ⟨by decide, by lia, by lia⟩
    have i1 : (0 : Int) ≤ 1 ∧ (1 : Int) < (ws.length : Int) ∧ ws.length ≤ 1048576 := ⟨by decide, by lia, by lia⟩
    obtain ⟨j6, hj6, hj7⟩ := fmod_nat (x := M) (y := 6) (by decide)
    have hit : ∀ i : Nat, ([[48], [48] ++ ws.getD 1 [], ws.getD 1 [] ++ [49], [], [120], [45, 49]].getD i []).length ≤ 513 := fun i => getD_len fun x hx => by
      simp only [List.mem_cons, List.not_mem_nil, or_false] at hx
      rcases hx with rfl | rfl | rfl | rfl | rfl | rfl
      · decide
      · exact Nat.le_trans (len_app (Nat.le_refl 1) hw1) (by decide)
      · exact Nat.le_trans (len_app hw1 (Nat.le_refl 1)) (by decide)
      · decide
      · decide
      · decide
    refine Runs.step (setItem_ok (n := 12) (j := (a : Int)) hT rfl rfl rfl (.head _) rfl rfl ?_ rfl trivial (by lia) (by lia) (by lia) rfl rfl) (Runs.ret (n := 9) hT rfl trivial (setA (Nat.le_trans (len_app (len_app (len_app hw0 (Nat.le_refl 1)) (hit _)) (Nat.le_refl 1)) (by decide))))
    walk_at "cond"
    · exact i0
    · exact Nat.le_trans (Nat.add_le_add hw0 (Nat.le_refl 1)) (by decide)
    · exact i1
    · exact Nat.le_trans (Nat.add_le_add (Nat.le_refl 1) hw1) (by decide)
    · exact i1
    · exact Nat.le_trans (Nat.add_le_add hw1 (Nat.le_refl 1)) (by decide)
    · exact (show 6 ≤ 16777216 by decide)
    · exact ⟨(show 0 ≤ M.fmod 6 by lia), (show M.fmod 6 < 6 by lia), (show 6 ≤ 1048576 by decide)⟩
    · exact Nat.le_trans (Nat.add_le_add (len_app hw0 (Nat.le_refl 1)) (hit _)) (by decide)
    · exact Nat.le_trans (Nat.add_le_add (len_app (len_app hw0 (Nat.le_refl 1)) (hit _)) (Nat.le_refl 1)) (by decide)
  -- way 6
  refine Runs.ite (n := 9) hT rfl trivial (fun _ => ?_) fun _ => ?_
  · refine G.let1 (n := 12) (p := .rl (cut rows none (some (-1)))) hT rfl ?_ rfl rfl (Runs.ret (n := 9) hT rfl trivial (fin ⟨?_, fun r hr => ?_⟩ ?_))
    · walk_at "cond"
      show rows.length ≤ 16777216; lia
    · have h1 := cut_le rows none (some (-1)); lia
    · exact Nat.le_trans (hb2 r (cut_mem hr)) (by decide)
    · rw [cut_init, List.length_dropLast]; lia
  -- way 7
  refine Runs.ite (n := 9) hT rfl trivial (fun _ => ?_) fun _ => ?_
  · obtain ⟨j6, hj6, hj7⟩ := fmod_nat (x := M) (y := 6) (by decide)
    refine Runs.step (setItem_ok (n := 12) (j := (a : Int)) hT rfl rfl rfl (.head _) rfl rfl ?_ rfl trivial (by lia) (by lia) (by lia) rfl rfl) (Runs.ret (n := 9) hT rfl trivial (setA (getD_len seven)))
    walk_at "cond"
    · exact (show 6 ≤ 16777216 by decide)
    · exact ⟨(show 0 ≤ M.fmod 6 by lia), (show M.fmod 6 < 6 by lia), (show 6 ≤ 1048576 by decide)⟩
  -- way 8
  refine Runs.ite (n := 9) hT rfl trivial (fun _ => ?_) fun _ => ?_
  · refine Runs.step (setItem_ok (n := 12) (j := (t : Int)) hT rfl rfl rfl (.head _) rfl rfl ?_ rfl trivial (by lia) (by lia) (by lia) rfl rfl) (Runs.ret (n := 9) hT rfl trivial (setT (bif_len (Nat.le_trans (len_app (len_app (cl _ _) (Nat.le_refl 1)) (cl _ _)) (by decide)) (Nat.le_trans (len_app (cl _ _) (cl _ _)) (by decide)))))
    walk_at "cond"
    all_goals first
      | exact item
      | exact z1
      | exact Nat.le_trans (Nat.add_le_add (cl _ _) (Nat.le_refl 1)) (by decide)
      | exact Nat.le_trans (Nat.add_le_add (cl _ _) (cl _ _)) (by decide)
      | exact Nat.le_trans (Nat.add_le_add (len_app (cl _ _) (Nat.le_refl 1)) (cl _ _)) (by decide)
  -- way 9
  refine Runs.ite (n := 9) hT rfl trivial (fun _ => ?_) fun _ => ?_
  · refine Runs.step (setItem_ok (n := 12) (j := (t : Int)) hT rfl rfl rfl (.head _) rfl rfl ?_ rfl trivial (by lia) (by lia) (by lia) rfl rfl) (Runs.ret (n := 9) hT rfl trivial (setT (Nat.le_trans (bare_len _) (Nat.le_trans hrt (by decide)))))
    walk_at "cond"
    · exact item
    · exact (show (rows.getD t []).length ≤ 1048576 by lia)
  -- way 10
  · refine Runs.step (setItem_ok (n := 12) (j := (t : Int)) hT rfl rfl rfl (.head _) rfl rfl ?_ rfl trivial (by lia) (by lia) (by lia) rfl rfl) (Runs.ret (n := 9) hT rfl trivial (setT (Nat.le_trans (len_app (len_app (cl _ _) (bif_len (n := 5) (Nat.le_refl 5) (Nat.le_refl 5))) (cl _ _)) (by decide))))
    walk_at "cond"
    all_goals first
      | exact item
      | exact z1
      | exact Nat.le_trans (Nat.add_le_add (cl _ _) (bif_len (n := 5) (Nat.le_refl 5) (Nat.le_refl 5))) (by decide)
      | exact Nat.le_trans (Nat.add_le_add (len_app (cl _ _) (bif_len (n := 5) (Nat.le_refl 5) (Nat.le_refl 5))) (cl _ _)) (by decide)
      | exact .inl ⟨(fun h => nomatch h), by decide, by decide, (show 1 ≤ 16 by decide)⟩
end

/-- a row of statements in a frame on the ground -/
noncomputable abbrev RunsG (X : Exc) (W : Wd) (lv : Nat) (scope : Scope) (cel loc : Loc) (own : List Str) (st : List Stmt) (K : Out → Prop) : Prop := RunsP (fun f => f.outer = []) X W lv scope cel loc own st K
/-- a test in a frame on the ground -/
noncomputable def SndN (W : Wd) (lv : Nat) (scope : Scope) (cel loc : Loc) (own : List Str) (e : Expr) (b : Bool) : Prop :=
  ∀ (f : Fm) (m : Str → Option Value) (s : Shared) (Q : Bool → Shared → Prop) (E : Value → Shared → Prop), f.outer = [] → StOk W lv f scope cel loc own m s →
    (∀ h' tk, Nx W lv f scope cel own m s loc own m h' tk → Q b ⟨h', s.gens, s.drawn, tk, s.os⟩) → wpR (model W.prog W.w) f.A (isTrue e f.env (eval e f.env)) Q E s
section
variable {X : Exc} {W : Wd} {lv : Nat} {f : Fm} {scope : Scope} {cel loc loc' : Loc} {own own' : List Str} {s : Shared} {st : Stmt} {rest a b : List Stmt} {K K' : Out → Prop} {T : Tb} {m m' : Str → Option Value} {n : Nat} {P : Params}
theorem RunsG.of (h : Runs X W lv scope cel loc own a K) : RunsG X W lv scope cel loc own a K := fun f m s Q E _ C P => h f m s Q E C P
theorem RunsG.step {r : Loc × List Str} (h : Step W lv scope cel loc own st r) (g : RunsG X W lv scope cel r.1 r.2 rest K) : RunsG X W lv scope cel loc own (st :: rest) K :=
  fun f m s Q E ho C P => execsR_cons (h f m s _ E C fun m' h' tk x => g f m' _ Q E ho x.ok (P.after x))
theorem RunsG.sub (h : RunsG X W lv scope cel loc' own' a K) (hl : subLoc loc' loc) (ho : ∀ x ∈ own', x ∈ own) : RunsG X W lv scope cel loc own a K := fun f m s Q E hg C P =>
  h f m s Q E hg (C.sub hl ho) ⟨fun l o m' h' tk k x => P.next l o m' h' tk k (x.less ho), P.ret, P.exc⟩
theorem RunsG.iteN {test : Expr} {pos : Pos} {t : Bool} (h : SndN W lv scope cel loc own test t)
    (h1 : t = true → RunsG X W lv scope cel loc own (a ++ rest) K) (h2 : t = false → RunsG X W lv scope cel loc own (b ++ rest) K) : RunsG X W lv scope cel loc own (.If test a b pos :: rest) K := by
  intro f m s Q E ho C P
  rw [execs_cons, exec_If]
  simp only [bind_assoc]
  refine wpR_bind (wpR_standAt (wpR_bind (h f m s _ E ho C fun h' tk x => ?_)))
  cases t with
  | true =>
    have := h1 rfl f m _ Q E ho x.ok (P.after x)
    rw [execs_append] at this
    exact this
  | false =>
    have := h2 rfl f m _ Q E ho x.ok (P.after x)
    rw [execs_append] at this
    exact this
theorem SndN.of {e : Expr} {t : Bool} (h : SndT W lv ⟨scope.names, cel⟩ loc e t) : SndN W lv scope cel loc own e t := fun f m s Q E ho C g => h f f.env s Q E C.env fun h' tk k => g h' tk (Nx.of_stays C k)
theorem SndN.ev (hT : TbOk W lv T) {e : Expr} {t : Bool} {c : Cond} (e1 : (ev T n).2 ⟨scope.names, cel⟩ loc e = some (t, c)) (hc : c.holds) : SndN W lv scope cel loc own e t := .of ((ev_ok hT n).2 _ _ e t c e1 hc)
theorem SndN.or {x y : Expr} {pos : Pos} {t u : Bool} (h : SndN W lv scope cel loc own x t) (g : t = false → SndN W lv scope cel loc own y u) : SndN W lv scope cel loc own (.BoolOp .Or [x, y] pos) (t || u) := by
  intro f m s Q E ho C k
  refine orR (h f m s _ E ho C fun h' tk z => ?_)
  cases t with
  | true => exact k h' tk z
  | false =>
    refine orR (g rfl f m _ _ E ho z.ok fun h2 tk2 z2 => ?_)
    cases u with
    | true => exact k h2 tk2 (z.trans z2)
    | false => exact orR_nil (k h2 tk2 (z.trans z2))
/-- a frame's own namespace is marked -/
theorem Nx.marked {h' : Heap} {tk : Nat} (C : StOk W lv f scope cel loc own m s) (k : ∀ b o, b ≠ f.L → s.heap.get? b = some o → h'.get? b = some o) (hn : h'.Ns f.L m) : Nx W lv f scope cel own m s loc own m h' tk := by
  have sm : Same [f.L] s.heap h' := fun b o n e => k b o (fun q => n (q ▸ List.mem_singleton_self _)) e
  refine ⟨fun b o e n _ => k b o n e, fun b h => .inl h, C.sc, fun x p e => ?_, C.ok, ⟨hn, fun b o e => k b o (fun q => ?_) (C.fr.keep b o e), C.fr.above⟩, C.lc.turn sm fun _ _ n _ => n, fun x hx => ?_⟩
  · obtain ⟨kk, c, v, e1, e2, e3⟩ := C.ce x p e
    exact ⟨kk, c, v, e1, cell_apart C.fr.ns k e2, e3.same sm⟩
  · rw [q] at e
    exact Nat.lt_irrefl _ (Nat.lt_of_lt_of_le (Heap.lt_size e) C.fr.above)
  · obtain ⟨c, e1, e2, e3, o, e4, e5⟩ := C.ow x hx
    exact ⟨c, e1, e2, e3, o, k _ _ e3 e4, e5⟩
theorem told_eval (hW : W.K = KK P) (hT : TbOk W (lv + 6) T) {np cp : Pos} {args : List Expr} {rows : List (List UInt8)} {a : Nat} {c : Cond} (hg : scope.names.lookup ("_law_told" : Str) = some .globalImplicit)
    (e1 : evs (Nt.ev T n).1 ⟨scope.names, cel⟩ loc args = some ([.rl rows, .int (a : Int), .codec], c)) (hc : c.holds) (hb : Bd rows) (ha : a ≤ rows.length) {Q E : Value → Shared → Prop} (ho : f.outer = []) (C : StOk W (lv + 6) f scope cel loc own m s)
    (g : ∀ v h' tk, Nx W (lv + 6) f scope cel own m s loc own m h' tk → Rep [] h' (duePV (due rows a)) v → Q v ⟨h', s.gens, s.drawn, tk, s.os⟩) : wpR (model W.prog W.w) f.A (eval (.Call (.Name "_law_told" np) args [] cp) f.env) Q E s := by
  have hst := evs_star e1
  refine callNameR (name_fn (N_l_told hW) hg (by decide +kernel) C.env (callWithR (P := fun h => W.K.In h) (any_star hst) (K_l_told hW) (evs_ok (ev_ok hT n).1 args _ c e1 hc f f.env s cp _ E C.env fun vs h1 tk1 k1 r1 => ⟨(C.env.stays (tk := tk1) k1).heapK, ?_⟩)))
  have z1 : Nx W (lv + 6) f scope cel own m s loc own m h1 tk1 := Nx.of_stays C k1
  exact told_law (lv := lv) hW ho z1.ok.ok z1.ok.fr r1 hb ha fun v h' tk hk hn hr => g v h' tk (z1.trans (Nx.marked z1.ok hk hn)) hr
theorem SndN.told (hW : W.K = KK P) (hT : TbOk W (lv + 6) T) {np cp pos : Pos} {args : List Expr} {rows : List (List UInt8)} {a : Nat} {c c2 c3 : Cond} {op : CmpOp} {r : Expr} {p : PV} {t : Bool} (hg : scope.names.lookup ("_law_told" : Str) = some .globalImplicit)
    (e1 : evs (Nt.ev T n).1 ⟨scope.names, cel⟩ loc args = some ([.rl rows, .int (a : Int), .codec], c)) (hc : c.holds) (hb : Bd rows) (ha : a ≤ rows.length) (hm : behindInMarks op r = false)
    (e2 : (Nt.ev T n).1 ⟨scope.names, cel⟩ loc r = some (p, c2)) (hc2 : c2.holds) (e3 : cmpPV T op (duePV (due rows a)) p = some (t, c3)) (hc3 : c3.holds) :
    SndN W (lv + 6) scope cel loc own (.Compare (.Call (.Name "_law_told" np) args [] cp) [op] [r] pos) t := by
  intro f m s Q E ho C g
  refine cmpR (told_eval hW hT hg e1 hc hb ha ho C fun x h1 tk1 z r1 => ?_) hm
  refine (ev_ok hT n).1 _ _ r p c2 e2 hc2 f f.env _ _ E z.ok.env fun y h2 tk2 k2 r2 => wpR_of (cmp_ok (s := ⟨h2, s.gens, s.drawn, tk2, s.os⟩) hT (units_ok C.ok) (r1.stays k2) r2 t c3 e3 hc3 _ _ (truth (g _ _ (z.trans (Nx.of_stays z.ok k2)))))
theorem RunsG.letE {x y : Str} {xp yp cp pos : Pos} {args : List Expr} {fv : Value} {ps : List PV} {c : Cond} {dom : List PV → Prop} {post : List PV → PV → Prop} (hT : TbOk W lv T) (hn : NameIs W y fv) (hk : Keeps' W fv) (hco : CallEx W lv fv dom post) (hg : scope.names.lookup y = some .globalImplicit) (hd : (y == ("__debug__" : Str)) = false)
    (e1 : evs (ev T n).1 ⟨scope.names, cel⟩ loc args = some (ps, c)) (hc : c.holds) (hD : dom ps) (hx : isLoc scope x = true) (hnil : isNil loc = false) (next : ∀ r, post ps r → RunsG X W lv scope cel (put x r loc) (without x own) rest K) :
    RunsG X W lv scope cel loc own (.Assign [.Name x xp] (.Call (.Name y yp) args [] cp) pos :: rest) K := by
  intro f m s Q E hout C P
  have hst := evs_star e1
  refine execsR_cons ?_
  rw [exec_Assign_Name (hs := swaps_plain rfl)]
  refine wpR_bind (wpR_standAt (wpR_bind ?_))
  refine callNameR (name_fn hn hg hd C.env (callWithR (P := fun h => W.K.In h) (any_star hst) hk (evs_ok (ev_ok hT n).1 args ps c e1 hc f f.env s cp _ E C.env fun vs h1 tk1 k1 r1 => ⟨(C.env.stays (tk := tk1) k1).heapK, ?_⟩)))
  have C1 := C.stays (tk := tk1) k1
  refine hco f _ ps vs _ E C.ok ⟨m, C1.fr⟩ r1 hD fun r hr v h' tk k rr => wpR_bind (wpR_standAt (wpR_bindA (wpAny_bindName ?_)))
  have z : Nx W lv f scope cel own m s loc own m h' tk := Nx.of_stays C (stays_trans k1 k)
  exact z.store (by rw [hnil]; exact Bool.or_true _) rr (isLoc_eq hx) keepOwn fun m' h2 tk2 y _ => wpR_pure (next r hr f m' _ Q E hout y.ok (P.after y))
end

section
variable {X : Exc} {W : Wd} {lv : Nat} {f : Fm} {scope : Scope} {cel loc loc' : Loc} {own own' : List Str} {s : Shared} {st : Stmt} {rest a b : List Stmt} {K K' : Out → Prop} {T : Tb} {m m' : Str → Option Value} {n : Nat} {P : Params}
theorem S.let1 {x : Str} {xp pos : Pos} {e : Expr} {p : PV} {c : Cond} (hT : TbOk W lv T) (e1 : (ev T n).1 ⟨scope.names, cel⟩ loc e = some (p, c)) (hc : c.holds) (hx : (isLoc scope x && !isComp e) = true) (hp : (p.plain || !isNil loc) = true) (next : RunsG X W lv scope cel (put x p loc) (without x own) rest K) :
    RunsG X W lv scope cel loc own (.Assign [.Name x xp] e pos :: rest) K := by
  refine RunsG.step (r := (put x p loc, without x own)) (assign1_ok hT (n := n) _ (c.and none) ?_ (by cases c <;> exact hc)) next
  rw [hx, e1]
  unfold onlyIf seq
  dsimp only
  rw [hp]
theorem S.letC {x : Str} {xp pos cp : Pos} {elt ta it : Expr} {ifs : List Expr} {k : Int} {sc2 : Scope} {p : PV} {c : Cond} (hT : TbOk W lv T) (e1 : evComp (ev T n).1 (ev T n).2 ⟨scope.names, cel⟩ loc elt sc2 ta it ifs k = some (p, c)) (hc : c.holds) (hx : isLoc scope x = true) (hp : p.plain = true) (next : RunsG X W lv scope cel (put x p loc) (without x own) rest K) :
    RunsG X W lv scope cel loc own (.Assign [.Name x xp] (.ListComp elt [⟨ta, it, ifs, k⟩] sc2 cp) pos :: rest) K := by
  refine RunsG.step (r := (put x p loc, without x own)) (assignC_ok hT (n := n) _ (c.and none) ?_ (by cases c <;> exact hc)) next
  rw [hx, e1]
  unfold onlyIf seq
  dsimp only
  rw [hp]
theorem S.letT {ts : List Expr} {k : Nat} {tp pos : Pos} {e : Expr} {r : Loc × List Str} {p : PV} {c c₂ : Cond} (hT : TbOk W lv T) (e1 : (ev T n).1 ⟨scope.names, cel⟩ loc e = some (p, c)) (hc : c.holds) (hx : (!isComp e) = true) (e2 : tupSt scope loc own ts e p = some (r, c₂)) (hc₂ : c₂.holds) (next : RunsG X W lv scope cel r.1 r.2 rest K) :
    RunsG X W lv scope cel loc own (.Assign [.Tuple ts k tp] e pos :: rest) K := by
  refine RunsG.step (r := r) (assignT_ok hT (n := n) _ (c.and c₂) ?_ (by cases c <;> cases c₂ <;> first | exact ⟨hc, hc₂⟩ | exact hc | exact hc₂)) next
  rw [hx, e1]
  unfold onlyIf seq
  dsimp only
  rw [e2]
theorem S.ret {e : Expr} {pos : Pos} {p : PV} {c : Cond} (hT : TbOk W lv T) (e1 : (ev T n).1 ⟨scope.names, cel⟩ loc e = some (p, c)) (hc : c.holds) (hK : K (.ret p)) : RunsG X W lv scope cel loc own (.Return (some e) pos :: rest) K := .of (Runs.ret hT e1 hc hK)
theorem S.ite {test : Expr} {pos : Pos} {t : Bool} {c : Cond} (hT : TbOk W lv T) (e : (ev T n).2 ⟨scope.names, cel⟩ loc test = some (t, c)) (hc : c.holds)
    (h1 : t = true → RunsG X W lv scope cel loc own (a ++ rest) K) (h2 : t = false → RunsG X W lv scope cel loc own (b ++ rest) K) : RunsG X W lv scope cel loc own (.If test a b pos :: rest) K := RunsG.iteN (SndN.ev hT e hc) h1 h2
theorem SndN.cmp (hT : TbOk W lv T) {pos : Pos} {c1 c2 c3 : Cond} {op : CmpOp} {l r : Expr} {p q : PV} {t : Bool} (hm : behindInMarks op r = false) (e1 : (Nt.ev T n).1 ⟨scope.names, cel⟩ loc l = some (p, c1)) (hc1 : c1.holds)
    (e2 : (Nt.ev T n).1 ⟨scope.names, cel⟩ loc r = some (q, c2)) (hc2 : c2.holds) (e3 : cmpPV T op p q = some (t, c3)) (hc3 : c3.holds) : SndN W lv scope cel loc own (.Compare l [op] [r] pos) t := by
  intro f m s Q E ho C g
  refine cmpR ((ev_ok hT n).1 _ _ l p c1 e1 hc1 f f.env s _ E C.env fun x h1 tk1 k1 r1 => ?_) hm
  have z : Nx W lv f scope cel own m s loc own m h1 tk1 := Nx.of_stays C k1
  refine (ev_ok hT n).1 _ _ r q c2 e2 hc2 f f.env _ _ E z.ok.env fun y h2 tk2 k2 r2 => wpR_of (cmp_ok (s := ⟨h2, s.gens, s.drawn, tk2, s.os⟩) hT (units_ok C.ok) (r1.stays k2) r2 t c3 e3 hc3 _ _ (truth (g _ _ (z.trans (Nx.of_stays z.ok k2)))))
theorem cmp_tell {T : Tb} (hC : T.Cm = cmBase) {x : List UInt8 × List UInt8 × Int} {p : PV} (h : p = tellPV x) : cmpPV T .NotEq (tellPV x) p = some (false, none) := by
  subst h
  show alt none (alt none (alt none (alt none (T.Cm .NotEq (tellPV x) (tellPV x))))) = _
  rw [hC]
  show some (!(((txt x.1 == txt x.1) && (x.2.1 == x.2.1)) && (x.2.2 == x.2.2)), none) = _
  rw [beq_self_eq_true, beq_self_eq_true, beq_self_eq_true]; rfl
theorem cmp_due {T : Tb} (hC : T.Cm = cmBase) (d : Option (List UInt8 × List UInt8 × Int)) : cmpPV T .NotEq (duePV d) (duePV d) = some (false, none) := by
  cases d with
  | some x => exact cmp_tell hC rfl
  | none =>
    show alt none (alt none (alt none (alt none (T.Cm .NotEq .none .none)))) = _
    rw [hC]; rfl
theorem put_sub {x : Str} {q : PV} {l l' : Loc} (h : subLoc l' l) : subLoc (put x q l') (put x q l) := fun z w hz => by
  rw [lookup_put] at hz ⊢
  split
  · rename_i q; rw [if_pos q] at hz; exact hz
  · rename_i q; rw [if_neg q] at hz; exact h _ _ hz
theorem flat_len2 {n : Nat} {x : List UInt8} : (List.replicate n x).flatten.length = n * x.length := by simp
theorem law_runs (hW : W.K = KK P) (script : List Int) (hz : script.length ≤ 63) : RunsG (fun _ _ _ _ => False) W (lv + 6) (fScope (St 43)) [] [("script", .il script)] [] (fBody (St 43)) (fun o => o = .ret (.bool true)) := by
  have hT := (((T0_ok (lv := lv + 6) hW).fn (N_l_written hW) (K_l_written hW) (w_l_written (lv := lv + 4) hW)).fn (N_write_binary hW) (K_write_binary hW) (w_write (lv := lv + 2) hW)).fn (N_l_due hW) (K_l_due hW) (w_l_due (lv := lv + 4) hW)
  have hcut : cut script none (some 32) = script.take 32 := cut_to_n _ (by decide)
  refine S.letC (n := 9) hT rfl ?_ rfl rfl ?_
  · walk_at "cond"
    · show script.length ≤ 16777216; lia
    · exact comp_cond (Nat.le_trans (cut_le _ _ _) (by lia)) fun v _ => trivial
  rw [comp_int (F := fun v : Int => v)]
  rotate_left
  · exact fun v _ => rfl
  refine RunsG.sub (loc' := [("cells", .il (script.take 32))]) (own' := []) ?_ (.cons (by show some (PV.il ((cut script none (some 32)).map fun v => v)) = _; rw [hcut, List.map_id']) .nil) (fun _ h => nomatch h)
  have hcs : (script.take 32).length ≤ 32 := by rw [List.length_take]; lia
  clear hcut
  generalize script.take 32 = cs at *
  refine S.letT (n := 12) (p := .pair (.int (bif (!decide (cs = [])) then cs.getD 0 0 else 0)) .codec) hT rfl ?_ rfl rfl trivial ?_
  · walk_at "cond"
    · show 0 ≤ 16777216; decide
    · rename_i q
      have q : (!decide (cs = [])) = true := q
      rw [Bool.not_eq_true', decide_eq_false_iff_not] at q
      have := List.length_pos_iff.mpr q
      exact ⟨by decide, (show (0 : Int) < (cs.length : Int) by lia), (show cs.length ≤ 1048576 by lia)⟩
  generalize (bif (!decide (cs = [])) then cs.getD 0 0 else 0) = F at *
  obtain ⟨j2, hj2, hj2'⟩ := fmod_nat (x := F.fdiv 2) (y := 2) (by decide)
  have comp : (((cut cs (some 1) none).map PV.int).filter fun p => true) = (cut cs (some 1) none).map PV.int := List.filter_eq_self.mpr fun _ _ => rfl
  have hcl : (cut cs (some 1) none).length ≤ 32 := Nat.le_trans (cut_le _ _ _) hcs
  have hX : ∀ k ∈ (cut cs (some 1) none).map (fun v : Int => v.fmod 256), 0 ≤ k ∧ k < 256 := fun k hk => by
    obtain ⟨v, _, rfl⟩ := List.mem_map.mp hk
    exact ⟨Int.fmod_nonneg_of_pos _ (by decide), Int.fmod_lt_of_pos _ (by decide)⟩
  refine S.let1 (n := 12) hT rfl ?_ rfl rfl ?_
  · walk_at "cond"
    · show cs.length ≤ 16777216; lia
    · exact comp_cond (Nat.le_trans hcl (by decide)) fun v _ => trivial
    · rw [comp_int (F := fun v : Int => v.fmod 256)]
      rotate_left
      · exact fun v _ => rfl
      · refine And.intro hX ?_
        rw [List.length_map]; exact Nat.le_trans hcl (by decide)
    · refine Or.inr ⟨?_, ?_⟩
      · show 1 + (F.fdiv 2).fmod 2 = 1 ∨ 1 + (F.fdiv 2).fmod 2 = 2
        rw [hj2]; lia
      · rw [comp_int (F := fun v : Int => v.fmod 256)]
        rotate_left
        · exact fun v _ => rfl
        · rw [List.length_map, List.length_map]; exact Nat.le_trans hcl (by decide)
    · rw [comp_int (F := fun v : Int => v.fmod 256)]
      rotate_left
      · exact fun v _ => rfl
      · show (List.replicate (1 + (F.fdiv 2).fmod 2).toNat (((cut cs (some 1) none).map fun v : Int => v.fmod 256).map fun n => n.toNat.toUInt8)).flatten.length ≤ 16777216
        rw [hj2, flat_len2, List.length_map, List.length_map]
        have : (1 + (j2 : Int)).toNat ≤ 2 := by lia
        have : (1 + (j2 : Int)).toNat * (cut cs (some 1) none).length ≤ 2 * 32 := Nat.mul_le_mul this hcl
        lia
  rw [comp_int (F := fun v : Int => v.fmod 256)]
  rotate_left
  · exact fun v _ => rfl
  have hoc : (cut (List.replicate (1 + (F.fdiv 2).fmod 2).toNat (((cut cs (some 1) none).map fun v : Int => v.fmod 256).map fun n => n.toNat.toUInt8)).flatten none (some 62)).length < 64 := by
    rw [cut_to_n _ (by decide), List.length_take]
    show min 62 _ < 64
    lia
  obtain ⟨oc, hoce⟩ : ∃ oc, oc = (cut (List.replicate (1 + (F.fdiv 2).fmod 2).toNat (((cut cs (some 1) none).map fun v : Int => v.fmod 256).map fun n => n.toNat.toUInt8)).flatten none (some 62)) := ⟨_, rfl⟩
  rw [← hoce] at hoc
  refine RunsG.sub (loc' := [("first", .int F), ("codec", .codec), ("octets", .bytes oc), ("cells", .il cs)]) (own' := []) ?_ (.cons rfl (.cons rfl (.cons (by rw [hoce]; rfl) (.cons rfl .nil)))) (fun _ h => nomatch h)
  clear hoce comp hX hcl hj2 hj2'
  obtain ⟨g2, hg2, hg2'⟩ := fmod_nat (x := F) (y := 2) (by decide)
  obtain ⟨g3, hg3, hg3'⟩ := fmod_nat (x := F.fdiv 4) (y := 3) (by decide)
  refine S.letT (n := 12) (p := .pair (.str (bif F.fmod 2 == 0 then "literal" else "delta")) (.rl (List.replicate ((F.fdiv 4).fmod 3).toNat [[120, 10]]).flatten)) hT rfl ?_ rfl rfl trivial ?_
  · walk_at "cond"
    · show F.fmod 2 = 0 ∨ F.fmod 2 = 1; rw [hg2]; lia
    · show 1 ≤ 16777216; decide
    · show 0 ≤ (F.fdiv 4).fmod 3 ∧ (F.fdiv 4).fmod 3 ≤ 1048576 ∧ 1 * ((F.fdiv 4).fmod 3).toNat ≤ 256
      rw [hg3]; lia
  obtain ⟨i, hi⟩ : ∃ i, (bif F.fmod 2 == 0 then ("literal" : Str) else "delta") = wordOf i := by
    cases F.fmod 2 == 0
    · exact ⟨true, rfl⟩
    · exact ⟨false, rfl⟩
  obtain ⟨A, hA⟩ : ∃ A : List (List UInt8), (List.replicate ((F.fdiv 4).fmod 3).toNat [[120, 10]]).flatten = A := ⟨_, rfl⟩
  have hA1 : A.length ≤ 2 ∧ ∀ r ∈ A, r.length ≤ 2 := by
    rw [← hA, hg3, show ((g3 : Int)).toNat = g3 by lia]
    refine ⟨by simp; lia, fun r hr => ?_⟩
    obtain ⟨l, hl, hr⟩ := List.mem_flatten.mp hr
    rw [List.eq_of_mem_replicate hl] at hr
    rw [List.mem_singleton.mp hr]; decide
  refine RunsG.sub (loc' := [("first", .int F), ("codec", .codec), ("octets", .bytes oc), ("cells", .il cs), ("word", .str (wordOf i)), ("ahead", .rl A)]) (own' := []) ?_ (.cons rfl (.cons rfl (.cons rfl (.cons rfl (.cons (by rw [← hi]; rfl) (.cons (by rw [← hA]; rfl) .nil)))))) (fun _ h => nomatch h)
  obtain ⟨hA1, hA2⟩ := hA1
  clear hg2 hg2' hg3 hg3' hi hA
  obtain ⟨w1, w2⟩ := words_le i
  have hk : (oc.length + 52) / 52 ≤ 2 := by lia
  have hwl := written_len (w := wordOf i) (b := oc)
  have hk1 : 1 ≤ (oc.length + 52) / 52 := by lia
  have hd2 := dec_len oc.length hoc
  have hhl : (headOf (wordOf i) oc.length).length ≤ 16 := by
    have ho := octs_len (w := wordOf i)
    unfold headOf
    rw [List.length_append, List.length_append, List.length_append]
    show (octs (wordOf i)).length + 1 + _ + 1 ≤ _
    lia
  have hwm : ∀ r ∈ written (wordOf i) oc, r.length ≤ 67 := fun r hr => by
    unfold written at hr
    rcases List.mem_append.mp hr with hr | hr
    · rcases List.mem_cons.mp hr with rfl | hr
      · lia
      · exact (rows_ne r hr).2
    · rw [List.mem_singleton.mp hr]; decide
  have hwf : (written (wordOf i) oc).flatten.length ≤ 100001 := by
    unfold written
    rw [List.flatten_append, List.length_append]
    have := flat_len (w := wordOf i) (b := oc) (by lia) hoc
    show _ + 1 ≤ _
    lia
  refine S.let1 (n := 9) (p := .rl (written (wordOf i) oc)) hT rfl (by walk_at "cond"; exact ⟨w1, by lia, hoc⟩) rfl rfl ?_
  refine S.ite (n := 12) hT rfl ?_ (fun h => ?_) fun _ => ?_
  · walk_at "cond"
    · exact ⟨w1, by lia, hoc⟩
    · refine ⟨rfl, (show 2 ≤ (written (wordOf i) oc).length by lia), (show (written (wordOf i) oc).flatten.length ≤ 16777216 by lia)⟩
  · have h : ((written (wordOf i) oc).flatten != (written (wordOf i) oc).flatten) = true := h
    rw [bne_self_eq_false] at h; cases h
  have hdue1 := due_written i hoc A []
  rw [List.append_nil] at hdue1
  have hdue2 := due_written i hoc A [[109, 111, 114, 101, 10]]
  generalize hWe : written (wordOf i) oc = Wr at *
  refine S.letT (n := 9) (p := .pair (.rl (A ++ Wr)) (.int (A.length : Int))) hT rfl ?_ rfl rfl trivial ?_
  · walk_at "cond"
    · show A.length + Wr.length ≤ 16777216; lia
    · show A.length ≤ 16777216; lia
  refine RunsG.sub (loc' := [("first", .int F), ("codec", .codec), ("octets", .bytes oc), ("cells", .il cs), ("word", .str (wordOf i)), ("rows", .rl (A ++ Wr)), ("at", .int (A.length : Int))]) (own' := []) ?_ (.cons rfl (.cons rfl (.cons rfl (.cons rfl (.cons rfl (.cons rfl (.cons rfl .nil))))))) (fun _ h => nomatch h)
  have hbd : (A ++ Wr).length ≤ 6 ∧ ∀ r ∈ A ++ Wr, r.length ≤ 67 := by
    refine ⟨by rw [List.length_append]; lia, fun r hr => ?_⟩
    rcases List.mem_append.mp hr with hr | hr
    · have := hA2 r hr; lia
    · exact hwm r hr
  have hap : (A ++ Wr).length = A.length + Wr.length := List.length_append
  have hBd : Bd (A ++ Wr) := ⟨by lia, fun r hr => Nat.le_trans (hbd.2 r hr) (by decide)⟩
  have hBd2 : Bd (A ++ Wr ++ [[109, 111, 114, 101, 10]]) := by
    refine ⟨by rw [List.length_append]; show _ + 1 ≤ 256; lia, fun r hr => ?_⟩
    rcases List.mem_append.mp hr with hr | hr
    · exact hBd.2 r hr
    · rw [List.mem_singleton.mp hr]; decide
  have hR : (A ++ Wr).length ≤ 16777216 := by lia
  have hsame : PV.pair (.pair (.str (wordOf i)) (.bytes oc)) (.int ((A ++ Wr).length : Int)) = tellPV (litOf i, oc, ((A.length + Wr.length : Nat) : Int)) := by
    rw [hap]
    show _ = PV.pair (.pair (.str (txt (litOf i))) (.bytes oc)) (.int ((A.length + Wr.length : Nat) : Int))
    rw [words_txt]
  refine RunsG.iteN (t := false || false) (SndN.or (SndN.told (c3 := none) (lv := lv) (n := 12) (rows := A ++ Wr) (a := A.length) hW hT rfl rfl trivial hBd (by lia) rfl rfl (by walk_at "cond"; exact hR) (by rw [hdue1]; exact cmp_tell rfl hsame) trivial) fun _ =>
    SndN.cmp (c3 := none) (n := 12) hT rfl rfl (by walk_at "cond"; exact ⟨hBd, (show (0 : Int) ≤ (A.length : Int) by lia), (show (A.length : Int) < ((A ++ Wr).length : Int) by lia)⟩) rfl (by walk_at "cond"; exact hR) (by show cmpPV _ _ (duePV (due (A ++ Wr) A.length)) _ = _; rw [hdue1]; exact cmp_tell rfl hsame) trivial) (fun h => nomatch h) fun _ => ?_
  refine RunsG.iteN (t := false || false) (SndN.or (SndN.told (c3 := none) (lv := lv) (n := 12) (rows := A ++ Wr ++ [[109, 111, 114, 101, 10]]) (a := A.length) hW hT rfl rfl (by walk_at "cond"; exact (show 1 ≤ 16777216 by decide); exact (show (A ++ Wr).length + 1 ≤ 16777216 by lia)) hBd2 (by rw [List.length_append]; lia) rfl rfl (by walk_at "cond"; exact hR) (by rw [hdue2]; exact cmp_tell rfl hsame) trivial) fun _ =>
    SndN.told (c3 := none) (lv := lv) (n := 12) (rows := A ++ Wr) (a := (A ++ Wr).length) (p := .none) hW hT rfl rfl (by walk_at "cond"; exact hR) hBd (Nat.le_refl _) rfl rfl trivial (by rw [due_end]; rfl) trivial) (fun h => nomatch h) fun _ => ?_
  have hsplit : 2 ≤ (splitB (bare ((A ++ Wr).getD A.length [])) [32]).length := by
    have e0 : (A ++ Wr).getD A.length [] = headOf (wordOf i) oc.length := by
      rw [← hWe, List.getD_eq_getElem?_getD, List.getElem?_append_right (Nat.le_refl _), Nat.sub_self]; rfl
    rw [e0, heads i _ hoc]
    exact Nat.le_refl 2
  generalize hRe : A ++ Wr = R at *
  refine RunsP.for_ (n := 9) hT rfl trivial rfl (show Builtin.Range.small 0 3 1 = true by decide +kernel) rfl rfl (.inr rfl) (fun _ l _ => subLoc [("rows", .rl R), ("at", .int (A.length : Int)), ("codec", .codec), ("first", .int F), ("cells", .il cs)] l)
    (.cons rfl (.cons rfl (.cons rfl (.cons rfl (.cons rfl .nil))))) (fun j q l o hq hl => ?_) fun l o hl => ?_
  · obtain ⟨rfl, hj⟩ := rngL_get hq
    refine RunsG.sub (own' := []) ?_ (put_sub hl) (fun _ h => nomatch h)
    refine S.let1 (n := 12) hT rfl ?_ rfl rfl ?_
    · walk_at "cond"
      · show cs.length ≤ 16777216; lia
      · rename_i q
        have q : 0 + (j : Int) * 1 + 1 < (cs.length : Int) := of_decide_eq_true q
        exact ⟨(show (0 : Int) ≤ 0 + (j : Int) * 1 + 1 by lia), q, (show cs.length ≤ 1048576 by lia)⟩
    refine RunsG.letE (n := 9) hT (N_l_bent hW) (K_l_bent hW) (w_l_bent (lv := lv + 4) hW) rfl rfl rfl trivial ⟨R, A.length, _, rfl, by lia, fun r hr => Nat.le_trans (hbd.2 r hr) (by decide), by lia, hsplit⟩ rfl rfl fun r hr => ?_
    obtain ⟨sm, rfl, hsb, pp, qq, a', hps, ha'⟩ := hr
    have ha'' : a' = A.length := by
      injection hps with _ hps
      injection hps with h1 _
      injection h1 with h1
      lia
    subst ha''
    refine RunsG.iteN (t := false) (SndN.told (c3 := none) (lv := lv) (n := 12) (rows := sm) (a := A.length) hW hT rfl rfl trivial hsb (by lia) rfl rfl (by walk_at "cond"; exact ⟨hsb, (show (0 : Int) ≤ (A.length : Int) by lia), (show (A.length : Int) < (sm.length : Int) by lia)⟩) (cmp_due rfl _) trivial) (fun h => nomatch h) fun _ => ?_
    exact RunsG.of (Runs.nil (.cons rfl (.cons rfl (.cons rfl (.cons rfl (.cons rfl .nil))))))
  · exact S.ret (n := 9) hT rfl trivial rfl
end

theorem ints_of_reads {R : WRecords} {cl : Str → Option Addr} {h : Heap} : ∀ {ns : List Int} {vs : List Value} {as : List Addr}, ReadsAllW R cl h vs (ns.map .int) as → IntsAre vs ns
  | [], vs, as, r => by
    obtain ⟨rfl, _⟩ := readsAllW_nil_inv r
    exact .nil
  | n :: ns, vs, as, r => by
    obtain ⟨v, us, _, _, rfl, _, r1, r2⟩ := readsAllW_cons_inv r
    obtain ⟨t, rfl, _⟩ := readsW_int_inv r1
    exact .cons n t (ints_of_reads r2)
theorem pre_use {args : List WData} (h : R0.claim.pre args = true) : ∃ ns : List Int, args = [.list (ns.map .int)] ∧ ns.length ≤ 63 := by
  obtain ⟨h1, h2⟩ := pre_splitW h
  match args, h1 with
  | [d], h1 =>
    have h1 : (WShape.has R0.records d (.list .int) && true) = true := h1
    rw [Bool.and_true] at h1
    obtain ⟨xs, rfl, hx⟩ := hasW_list h1
    obtain ⟨ns, rfl⟩ := items_int hx
    refine ⟨ns, rfl, ?_⟩
    have h2 : (WTm.and (.not (.lt (.lit (.int 63)) (.len (.arg 0)))) (.lit (.bool true))).holds R0.records { args := [.list (ns.map .int)] } = true := h2
    have h3 : (!decide ((63 : Int) < ((ns.map WData.int).length : Int))) = true := condW_of (holds_andW h2).1 rfl
    rw [List.length_map] at h3
    by_cases q : (63 : Int) < (ns.length : Int)
    · rw [decide_eq_true q] at h3; cases h3
    · lia
  | d :: e :: r, h1 => exact absurd h1 (by show ¬ (WShape.has R0.records d (.list .int) && false) = true; rw [Bool.and_false]; decide)
theorem same_tt : PySem.W.same (WData.bool true) (WData.bool true) = true := by first | decide +kernel | simp [PySem.W.same] | (unfold PySem.W.same; rfl)
theorem law_cell : ∀ x ∈ lawD.scope.names, x.2 ≠ .cell := by decide +kernel
theorem G0_calm : Calm (.builtin "claim.caller" {}) := calm_builtin (by decide +kernel) (by decide) (by decide) (by decide) (by decide) (by decide)
theorem walk0 : Walk0 Q0 LS (XL Q0 []) HK.says R0 lawD [] := by
  intro w s₀ s₁ mg mb G Y a o pm cd doc dV kV ho hdata hcd hdf hmg hgens args vals as hpre hlay hrd hwell hno
  obtain ⟨ns, rfl, hlen⟩ := pre_use hpre
  obtain ⟨v, us, as1, as2, rfl, rfl, hr1, hr2⟩ := readsAllW_cons_inv hrd
  obtain ⟨rfl, rfl⟩ := readsAllW_nil_inv hr2
  obtain ⟨l, its, as', rfl, hl, hri, _⟩ := readsW_list_inv hr1
  have hi := ints_of_reads hri
  have hdV : dV = .none := by
    rcases hdf.pos with ⟨_, h⟩ | ⟨h, _⟩
    · exact h
    · exact absurd (by kernel_rfl) h
  have hkV : kV = .none := by
    rcases hdf.kw with ⟨_, h⟩ | ⟨h, _⟩
    · exact h
    · exact absurd rfl h
  subst hdV hkV
  let W : Wd := ⟨P0, w, KK w.params, Q0, looseW Q0 LS, ExcName.means s₀.heap, mg, mb⟩
  have hX : (KK w.params).In s₁.heap := kIn_of Y
  suffices key : wpR (model P0 w) callerA (PySem.call (.ref a) [.ref l]) (fun v s' => GoodWG R0.claim (classAt s₀.heap) (ExcName.means s₀.heap) [.list (ns.map .int)] s₁ (.ok (.ret v)) s') (fun e s' => GoodWG R0.claim (classAt s₀.heap) (ExcName.means s₀.heap) [.list (ns.map .int)] s₁ (.error e) s') s₁ from
    fun p => key G0 p caller_in G0_calm (fun x hx => nomatch hx)
  refine wpR_call (codeR_call_def (fd := { docDef lawD.name lawD.params lawD.body lawD.scope pm cd doc with defaults := .none, kwdefaults := .none }) (body := fBody (St 43)) (binds := [("script", .ref l)]) ?_ ho hdata G.T.nolimit hcd (by kernel_rfl) (BindsTo.of_eq (by kernel_rfl)) law_cell ?_ (fun h₀ hns hk => ?_) (by kernel_rfl) (by kernel_rfl) (by kernel_rfl))
  · decide +kernel
  · intro x hx
    rw [List.mem_singleton.mp hx]
    kernel_rfl
  let f : Fm := { dp := 2 + claimMargin, un := 7, gd := some [], cn := lawD.name, cs := fScope (St 43), a := a, ccd := cd, cl := [], outer := [], A₀ := callerA, base := s₁.heap, h₀ := s₁.heap, L := s₁.heap.objs.size }
  have ok : f.ok W (0 + 6) := ⟨below_caller s₁.heap, hX, G.T, by kernel_rfl, by show 2 + claimMargin + (0 + 6) < recursionLimit; decide +kernel, by show 7 + 10 * (0 + 6) + 100 < cLine; decide +kernel, rfl, hX, G.T⟩
  have F : Fr s₁.heap s₁.heap.objs.size h₀ (fun x => [(("script" : Str), Value.ref l)].reverse.lookup x) := ⟨hns, hk, Nat.le_refl _⟩
  have lo : l ∉ [s₁.heap.objs.size] := fun h => by
    obtain ⟨o', e, _⟩ := hl
    rw [List.mem_singleton.mp h] at e
    exact Nat.lt_irrefl _ (Heap.lt_size e)
  have st : StOk W (0 + 6) f (fScope (St 43)) [] [("script", .il ns)] [] (fun x => [(("script" : Str), Value.ref l)].reverse.lookup x) { s₁ with heap := h₀, toks := s₁.toks + 1 } := by
    refine ⟨rfl, fun _ _ e => (nomatch e), ok, F, fun x p e => ?_, fun _ hx => nomatch hx⟩
    rcases List.mem_cons.mp (lookup_mem e) with e | e
    · cases e
      obtain ⟨o', e1, e2⟩ := hl
      exact ⟨.ref l, rfl, l, its.toList, rfl, lo, ⟨o', hk _ _ e1, e2⟩, hi⟩
    · cases e
  have R := law_runs (lv := 0) (W := W) (P := w.params) rfl ns hlen f _ _ (fun fl s' => (GoodWG R0.claim (classAt s₀.heap) (ExcName.means s₀.heap) [.list (ns.map .int)] s₁ (.ok (.ret (match fl with | .ret v => v | _ => .none))) s')) (fun e s' => wpAny (model P0 w) f.A (leaving f.env e) (fun _ s'' => GoodWG R0.claim (classAt s₀.heap) (ExcName.means s₀.heap) [.list (ns.map .int)] s₁ (.error e) s'') (fun e' s'' => GoodWG R0.claim (classAt s₀.heap) (ExcName.means s₀.heap) [.list (ns.map .int)] s₁ (.error e') s'') s') rfl st ⟨fun l o _ _ _ k => (nomatch k), fun p v m₂ h₂ tk k F₂ r₂ => ?_, fun C k => nomatch k⟩
  · exact R
  · cases k
    cases (show v = .bool true from r₂)
    exact GoodW.toG (goodW_bool F₂ hgens (raisesW_false fun _ h => nomatch h) (postW_of rfl rfl same_tt))
end Nt

theorem PySem.Challenge.cw_nt0274_01_holds : PySem.Challenge.rw_nt0274_01.Holds :=
  Nt.hd0 Nt.walk0
