import PyProof.Rows.All
import Wide.All
import OpenK.AllK
import Wide.FinOn
import PySem.Challenge.RW_pq0409_01
open PySem PySem.W PyProof.Rows PySem.Calls
set_option Elab.async false
set_option maxRecDepth 100000
set_option maxHeartbeats 0
set_option linter.unusedVariables false
namespace MineH
def isDec : Code → Bool
  | .builtin id _ => Builtin.Bytes.decodersThatHold.contains id
  | _ => false
def Clean (Γ : Ctx) : Prop := isDec Γ.code = false ∧ ∀ q ∈ Γ.below, isDec q.1 = false
def wpC {α : Type} (M : Model) (A : Around) (t : Sem α) (Q : α → Shared → Prop) (E : Value → Shared → Prop) (s : Shared) : Prop :=
  ∀ Γ p, Γ.In A → Clean Γ → Sem.wp M Γ t (fun a _ s' => Q a s') (fun e _ s' => E e s') p s
theorem clean_caller : Clean (⟨.builtin "claim.caller" {}, none, none, [], none⟩ : Ctx) := ⟨by decide +kernel, fun q hq => nomatch hq⟩
section
variable {α β : Type} {M : Model} {A : Around} {E : Value → Shared → Prop} {s : Shared}
theorem c_any {t : Sem α} {Q : α → Shared → Prop} (h : wpAny M A t Q E s) : wpC M A t Q E s := fun Γ p hΓ _ => h Γ p hΓ
theorem c_pure {a : α} {Q : α → Shared → Prop} (h : Q a s) : wpC M A (pure a) Q E s := fun _ _ _ _ => h
theorem c_mono {t : Sem α} {Q Q' : α → Shared → Prop} {E' : Value → Shared → Prop} (h : wpC M A t Q E s) (hQ : ∀ a s, Q a s → Q' a s) (hE : ∀ e s, E e s → E' e s) : wpC M A t Q' E' s :=
  fun Γ p hΓ hc => Sem.wp_mono M Γ t (fun a _ s => hQ a s) (fun e _ s => hE e s) p s (h Γ p hΓ hc)
theorem c_bind {m : Sem α} {f : α → Sem β} {Q : β → Shared → Prop} (h : wpC M A m (fun a s' => wpC M A (f a) Q E s') E s) : wpC M A (m >>= f) Q E s := fun Γ p hΓ hc => by
  rw [Sem.wp_bind']
  exact Sem.wp_mono M Γ m (fun a p' s' h' => h' Γ p' hΓ hc) (fun _ _ _ h' => h') p s (h Γ p hΓ hc)
end
theorem done_C {M : Model} {A : Around} {Γ : Ctx} {t : Sem Fin} {R : Result → Shared → Prop} {s : Shared} (hin : Γ.In A) (hc : Clean Γ)
    (h : wpC M A t (fun fin s' => ∃ f, fin = .done f ∧ R (.ok f) s') (fun e s' => R (.error e) s') s) (p : Pos) :
    Sem.wp M Γ t (Sem.finPost M Γ R) (fun e _ s' => R (.error e) s') p s := by
  refine Sem.wp_mono M Γ t (fun fin p' s' h' => ?_) (fun _ _ _ h' => h') p s (h Γ p hin hc)
  obtain ⟨f, rfl, hf⟩ := h'
  exact hf
theorem ends_C {prog : Program} {w : World} {t : Sem Fin} {s : Shared} {R : Result → Shared → Prop} (hreg : s.asleep)
    (h : wpC (model prog w) callerA t (fun fin s' => ∃ f, fin = .done f ∧ (R (.ok f) s' ∧ leftWithCleanup s'.gens = false)) (fun e s' => R (.error e) s' ∧ leftWithCleanup s'.gens = false) s) :
    ∃ n r s' s'', runN (denote table) prog w n s ⟨t, .builtin "claim.caller" {}, default, []⟩ = .halted (outcomeOf r) s' ∧
      schedN (denote table) prog w n (.single s ⟨t, .builtin "claim.caller" {}, default, []⟩) = .halted (outcomeOf r) s' ∧ s'.forget = s''.forget ∧ R r s'' := by
  obtain ⟨n, r, s₁, s₂, hs, hn, hfo, hR⟩ := wp_halts_full (M := model prog w) (R := R) hreg (done_C (R := fun r s' => R r s' ∧ leftWithCleanup s'.gens = false) caller_in clean_caller h default)
  exact ⟨n, r, s₂, s₁, hn, hs, hfo, hR⟩
theorem nameG {P : Prop} (k : let G := P; G) : P := k
theorem ex5 {α β γ δ ε : Type} {P : α → β → Prop} {R : α → β → γ → δ → ε → Prop} {a : α} {b : β} {c : γ} {d : δ} {e : ε} (h : P a b) (k : R a b c d e) : ∃ a b, P a b ∧ ∃ c d e, R a b c d e := ⟨a, b, h, c, d, e, k⟩
theorem callFrom_C {c : ClaimW} {tree : List Value → Sem Fin} {w : World} {s : Shared} {free : Addr → Prop} {gens : Prop} {kept : Heap → Prop} (hz : s.asleep) (hgens : s.gens = #[])
    (hspec : ∀ args, c.pre args = true → WData.layableAll args = true → ∀ ord : List DictEntry → List DictEntry, (∀ l, (ord l).Perm l) →
      ∃ vs s₁, layAllW c.records (classAt s.heap) w.params ord args s = some (vs, s₁) ∧
        wpC (model c.prog w) callerA (tree vs) (fun fin s' => ∃ f, fin = .done f ∧ (c.Ends s args vs s₁ (.ok f) s' ∧ s'.os = s.os ∧ AllBare s'.gens ∧ kept s'.heap))
          (fun e s' => c.Ends s args vs s₁ (.error e) s' ∧ s'.os = s.os ∧ AllBare s'.gens ∧ kept s'.heap) s₁) :
    c.CallFrom (fun vs => ⟨tree vs, .builtin "claim.caller" {}, default, []⟩) w free gens kept s := by
  intro args hpre hlay ord hord
  refine nameG ?_
  intro GG
  obtain ⟨vs, s₁, hlaid, hcode⟩ := hspec args hpre hlay ord hord
  have hal := layAllW_rest _ _ _ hlaid
  obtain ⟨k, r, s', s'', hrun, hsched, hfo, hh⟩ := ends_C (prog := c.prog) (w := w) (t := tree vs) (s := s₁) (R := fun r s' => c.Ends s args vs s₁ r s' ∧ s'.os = s.os ∧ kept s'.heap) (Shared.asleep_of_life hal.2.2.2 hz)
    (c_mono hcode (fun _ _ h => h.imp fun f z => ⟨z.1, ⟨z.2.1, z.2.2.1, z.2.2.2.2⟩, leftWithCleanup_false_of_bare z.2.2.2.1⟩) (fun _ _ z => ⟨⟨z.1, z.2.1, z.2.2.2⟩, leftWithCleanup_false_of_bare z.2.2.1⟩))
  have ef := Shared.forget_eq hfo
  have eh := ef.1
  have hkp : kept s'.heap := eh.symm ▸ hh.2.2
  have hos : s'.os = s.os := ef.2.2.2.1.trans hh.2.1
  have hlife : s'.heap.life = s.heap.life := (runN_life _ _ _ hrun).trans hal.2.2.2
  have hcase := hh.1.congr eh
  refine ex5 (a := vs) (b := s₁) hlaid (c := k) (d := outcomeOf r) (e := s') ⟨hsched, ?_, (fun _ i x hx => by rw [hgens] at hx; simp at hx), hkp, congrArg _ hlife, Shared.rest_eq hos⟩
  exact hcase.imp (fun h => h.imp fun v z => ⟨congrArg outcomeOf z.1, z.2.1, z.2.2.1, z.2.2.2.1, fun b o y _ => z.2.2.2.2.1 b o y, z.2.2.2.2.2⟩)
    (fun h => h.imp fun e h => h.imp fun ob h => h.imp fun cls z => ⟨congrArg outcomeOf z.1, z.2.1, z.2.2.1, z.2.2.2.1, z.2.2.2.2.1, fun b o y _ => z.2.2.2.2.2 b o y⟩)
abbrev WalkC (q : Program) (loose : List Str) (XP : (Str → Option Value) → Heap → Prop) (YP : World → Heap → Prop) (r : RowW) (d : DefRec) (kwd : List (Str × Expr)) : Prop :=
  ∀ (w : World) (s₀ s₁ : Shared) (mg mb : Str → Option Value), Ground q loose r.records XP w s₀ mg mb s₁.heap → YP w s₁.heap → ∀ (a : Addr) (o : Obj) (pm cd doc dV kV : Value), s₁.heap.get? a = some o →
    o.data = .func { docDef d.name d.params d.body d.scope pm cd doc with defaults := dV, kwdefaults := kV } → s₁.heap.CodeRec cd d.name → Dflts mg s₁.heap d.params kwd dV kV → mg d.name = some (.ref a) → s₁.gens = #[] →
    ∀ (args : List WData) (vals : List Value) (as : List Addr), r.claim.pre args = true → WData.layableAll args = true → ReadsAllW r.records (classAt s₀.heap) s₁.heap vals args as → WellAll w.params s₁.heap vals args → (∀ a ∈ as, (a == sysModules) = false) →
      wpC (model r.prog w) callerA (PySem.call (.ref a) vals) (fun v s' => GoodWG r.claim (classAt s₀.heap) (ExcName.means s₀.heap) args s₁ (.ok (.ret v)) s')
        (fun e s' => GoodWG r.claim (classAt s₀.heap) (ExcName.means s₀.heap) args s₁ (.error e) s') s₁
theorem PySem.W.holds_open {r : OpenRow} {q : Program} {loose : List Str} {Xt : Shared → Bool} {XP : (Str → Option Value) → Heap → Prop} {α : Type} {Yf : Shared → α} {Ya : World → α} {YP : World → Heap → Prop} {d : DefRec} {kwd : List (Str × Expr)} {N : Nat}
    (left : LeftO r.prog q loose Xt Yf Ya N) (hY : ∀ w s, Yf s = Ya w → YP w s.heap) (hYk : ∀ w h h', YP w h → (∀ b o, h.get? b = some o → h'.get? b = some o) → YP w h')
    (hX : ∀ s, Xt s = true → XP (s.heap.nsMap mainGlobals) s.heap) (hXk : ∀ mg h h', XP mg h → (∀ b o, h.get? b = some o → h'.get? b = some o) → XP mg h')
    (hdef : defOf q r.name = some (d, kwd)) (hp : r.prog.theDef r.name = some (d.params, d.body, d.scope)) (hk : kwWritten? d.params.kwonlyargs d.params.kw_defaults = some kwd) (hRf : ∀ s, Xt s = true → RecFacts r.records s.heap) (hwr : (!r.writes || r.records.isEmpty) = true)
    (k1 : r.wellSaid = true) (ok : (chainsOk q && opensWell r.prog && (frees r.toRowW && r.within.isEmpty)) = true) (hb : r.prog.bare) (hw : r.toRowW.promised)
    (call : WalkC q loose XP YP r.toRowW d kwd) : r.Holds := by
  refine ⟨k1, hw, ?_⟩
  obtain ⟨ok, k5⟩ := Bool.and_eq_true_iff.mp ok
  obtain ⟨hch, o1⟩ := Bool.and_eq_true_iff.mp ok
  obtain ⟨k5, k6⟩ := Bool.and_eq_true_iff.mp k5
  obtain ⟨hsame, hu, ha, hap, hm⟩ := frees_parts k5
  refine ⟨⟨hb, o1, by show r.makers.map _ = []; rw [hm]; rfl⟩, hw.witness, fun w => ⟨(left.behind hX hch w).1, fun s' hs' => ?_⟩⟩
  refine nameG ?_
  intro GG
  obtain ⟨s₀, hf, hg0, s, hT, hz, hgens, hg, G00, y⟩ := (left.behind (XP := fun mg h => XP mg h ∧ RecFacts r.records h) (fun s hs => ⟨hX s hs, hRf s hs⟩) hch w).2 s' hs'
  have G0 : Ground q loose [] XP w s (s.heap.nsMap mainGlobals) (s.heap.nsMap builtinsNs) s.heap := ⟨G00.T, G00.B, G00.D, G00.TE, G00.TD, G00.W, G00.X.1, G00.cls, G00.has, G00.apart, G00.once, G00.K⟩
  have RF := G00.X.2
  have hT' := hT
  refine ⟨s₀, hf, hg0, s, hT, ?_, RF.1, RF.2.1, ?_⟩
  · intro n hn
    obtain rfl : n = r.name := by split at hn <;> simp_all
    exact pinned_of_view hg G0 hdef hp hk
  have hgens : s.gens = #[] := Array.eq_empty_of_size_eq_zero (beq_iff_eq.mp hgens)
  have G : Ground q loose r.records XP w s _ _ s.heap := RF.ground G0
  refine callFrom_C (c := r.claim) (tree := fun vs => do match ← nsGet mainNs r.name with
      | some f => do ret (← PySem.call f vs)
      | none => unsupported "claim.caller:no-such-global") hz hgens fun args hpre hlay ord hord => ?_
  refine nameG ?_
  intro HH
  obtain ⟨⟨vs, s₁⟩, hlaid⟩ := Option.isSome_iff_exists.mp (layAllW_isSome (P := w.params) (ord := ord) G.has args r.args s (pre_splitW hpre).1)
  have keeps := layAllW_keeps _ _ _ hlaid
  have hal := layAllW_rest _ _ _ hlaid
  obtain ⟨as, hrd, hin, hold⟩ := reads_layAllW hord _ _ _ hlaid hlay s₁.heap (fun _ _ e => e)
  have L : Laid r.records w s s₁ args vs as := ⟨⟨ord, hord, hlaid⟩, hrd, hin, hold, keeps, hal.1.trans hgens, hal.2.2.1⟩
  have G₁ := G.keeps hXk keeps
  have hi := ident_freeW hu ha hap
  have hwi : r.claim.within = [] := List.isEmpty_iff.mp k6
  obtain ⟨a, o, pm, cd, doc, dV, kV, h1, h2, h3, h4, h5⟩ := G₁.fn hdef
  have h := call w s s₁ _ _ G₁ (hYk _ _ _ (hY w s y) keeps) a o pm cd doc dV kV h2 h3 h4 h5 (defOf_name hdef ▸ h1) L.gens args vs as hpre hlay L.reads L.well (L.low G.low)
  refine ⟨vs, s₁, hlaid, c_bind (c_any (wpAny_nsGet G₁.T.g ?_))⟩
  rw [show (s.heap.nsMap mainGlobals) r.name = some (.ref a) from h1]
  refine c_bind (c_mono h (fun v s' g => ?_) (fun e s' g => ?_))
  · have z := g.laid (c := r.claim) hsame hwi hi L
    exact c_any (wpAny_pure ⟨_, rfl, z.1, z.2.1, z.2.2, fun q => ⟨namesKept_of hT' hg _ keeps g.2.1.old, noTable hwr q⟩⟩)
  · have z := g.laid (c := r.claim) hsame hwi hi L
    exact ⟨z.1, z.2.1, z.2.2, fun q => ⟨namesKept_of hT' hg _ keeps g.2.1.old, noTable hwr q⟩⟩
noncomputable section
noncomputable abbrev PRG : Program := PySem.Challenge.rw_pq0409_01.row.toRowW.1
noncomputable def noStmt : Stmt := .Pass ⟨0, 0, 0, 0⟩
noncomputable def stAt (i : Nat) : Stmt := PRG.main.body.getD i noStmt
noncomputable def stIn (i j : Nat) : Stmt := match stAt i with
  | .ClassDef _ _ _ body _ _ _ _ _ _ _ => body.getD j noStmt
  | _ => noStmt
noncomputable def stP : Stmt → Arguments
  | .FunctionDef _ a _ _ _ _ _ _ _ _ => a
  | _ => { posonlyargs := [], args := [], vararg := none, kwonlyargs := [], kw_defaults := [], kwarg := none, defaults := [] }
noncomputable def stB : Stmt → List Stmt
  | .FunctionDef _ _ b _ _ _ _ _ _ _ => b
  | _ => []
noncomputable def stS : Stmt → Scope
  | .FunctionDef _ _ _ _ _ _ s _ _ _ => s
  | _ => { kind := .function, names := [], isGenerator := false, isCoroutine := false }
noncomputable def en (P : Params) (x : Str) (t : Tok) (v : Value) : DictEntry := ⟨PyData.keyHash P x, .str x t, v⟩
noncomputable def ob0 (P : Params) : Obj := ⟨(.type "dict"), none, (.dict #[en P "__name__" 1 (.str "builtins" 160), en P "__doc__" 2 (.builtin "builtins.__doc__:str#opaque"), en P "__package__" 3 (.builtin "builtins.__package__:str#opaque"), en P "__loader__" 4 (.builtin "builtins.__loader__:shared#opaque"), en P "__spec__" 5 (.builtin "builtins.__spec__#opaque"), en P "__build_class__" 6 (.builtin "__build_class__"), en P "__import__" 7 (.builtin "__import__"), en P "abs" 8 (.builtin "abs"), en P "all" 9 (.builtin "all"), en P "any" 10 (.builtin "any"), en P "ascii" 11 (.builtin "ascii"), en P "bin" 12 (.builtin "bin"), en P "breakpoint" 13 (.builtin "breakpoint"), en P "callable" 14 (.builtin "callable"), en P "chr" 15 (.builtin "chr"), en P "compile" 16 (.builtin "compile"), en P "delattr" 17 (.builtin "delattr"), en P "dir" 18 (.builtin "dir"), en P "divmod" 19 (.builtin "divmod"), en P "eval" 20 (.builtin "eval"), en P "exec" 21 (.builtin "exec"), en P "format" 22 (.builtin "format"), en P "getattr" 23 (.builtin "getattr"), en P "globals" 24 (.builtin "globals"), en P "hasattr" 25 (.builtin "hasattr"), en P "hash" 26 (.builtin "hash"), en P "hex" 27 (.builtin "hex"), en P "id" 28 (.builtin "id"), en P "input" 29 (.builtin "input"), en P "isinstance" 30 (.builtin "isinstance"), en P "issubclass" 31 (.builtin "issubclass"), en P "iter" 32 (.builtin "iter"), en P "aiter" 33 (.builtin "aiter"), en P "len" 34 (.builtin "len"), en P "locals" 35 (.builtin "locals"), en P "max" 36 (.builtin "max"), en P "min" 37 (.builtin "min"), en P "next" 38 (.builtin "next"), en P "anext" 39 (.builtin "anext"), en P "oct" 40 (.builtin "oct"), en P "ord" 41 (.builtin "ord"), en P "pow" 42 (.builtin "pow"), en P "print" 43 (.builtin "print"), en P "repr" 44 (.builtin "repr"), en P "round" 45 (.builtin "round"), en P "setattr" 46 (.builtin "setattr"), en P "sorted" 47 (.builtin "sorted"), en P "sum" 48 (.builtin "sum"), en P "vars" 49 (.builtin "vars"), en P "None" 50 .none, en P "Ellipsis" 51 (Value.ellipsis), en P "NotImplemented" 52 (Value.notImplemented), en P "False" 53 (.bool false), en P "True" 54 (.bool true), en P "bool" 55 (.type "bool"), en P "memoryview" 56 (.type "memoryview"), en P "bytearray" 57 (.type "bytearray"), en P "bytes" 58 (.type "bytes"), en P "classmethod" 59 (.type "classmethod"), en P "complex" 60 (.type "complex"), en P "dict" 61 (.type "dict"), en P "enumerate" 62 (.type "enumerate"), en P "filter" 63 (.type "filter"), en P "float" 64 (.type "float"), en P "frozenset" 65 (.type "frozenset"), en P "property" 66 (.type "property"), en P "int" 67 (.type "int"), en P "list" 68 (.type "list"), en P "map" 69 (.type "map"), en P "object" 70 (.type "object"), en P "range" 71 (.type "range"), en P "reversed" 72 (.type "reversed"), en P "set" 73 (.type "set"), en P "slice" 74 (.type "slice"), en P "staticmethod" 75 (.type "staticmethod"), en P "str" 76 (.type "str"), en P "super" 77 (.type "super"), en P "tuple" 78 (.type "tuple"), en P "type" 79 (.type "type"), en P "zip" 80 (.type "zip"), en P "__debug__" 81 (.bool true), en P "BaseException" 82 (.type "BaseException"), en P "BaseExceptionGroup" 83 (.type "BaseExceptionGroup"), en P "Exception" 84 (.type "Exception"), en P "GeneratorExit" 85 (.type "GeneratorExit"), en P "KeyboardInterrupt" 86 (.type "KeyboardInterrupt"), en P "SystemExit" 87 (.type "SystemExit"), en P "ArithmeticError" 88 (.type "ArithmeticError"), en P "AssertionError" 89 (.type "AssertionError"), en P "AttributeError" 90 (.type "AttributeError"), en P "BufferError" 91 (.type "BufferError"), en P "EOFError" 92 (.type "EOFError"), en P "ImportError" 93 (.type "ImportError"), en P "LookupError" 94 (.type "LookupError"), en P "MemoryError" 95 (.type "MemoryError"), en P "NameError" 96 (.type "NameError"), en P "OSError" 97 (.type "OSError"), en P "ReferenceError" 98 (.type "ReferenceError"), en P "RuntimeError" 99 (.type "RuntimeError"), en P "StopAsyncIteration" 100 (.type "StopAsyncIteration"), en P "StopIteration" 101 (.type "StopIteration"), en P "SyntaxError" 102 (.type "SyntaxError"), en P "SystemError" 103 (.type "SystemError"), en P "TypeError" 104 (.type "TypeError"), en P "ValueError" 105 (.type "ValueError"), en P "Warning" 106 (.type "Warning"), en P "FloatingPointError" 107 (.type "FloatingPointError"), en P "OverflowError" 108 (.type "OverflowError"), en P "ZeroDivisionError" 109 (.type "ZeroDivisionError"), en P "BytesWarning" 110 (.type "BytesWarning"), en P "DeprecationWarning" 111 (.type "DeprecationWarning"), en P "EncodingWarning" 112 (.type "EncodingWarning"), en P "FutureWarning" 113 (.type "FutureWarning"), en P "ImportWarning" 114 (.type "ImportWarning"), en P "PendingDeprecationWarning" 115 (.type "PendingDeprecationWarning"), en P "ResourceWarning" 116 (.type "ResourceWarning"), en P "RuntimeWarning" 117 (.type "RuntimeWarning"), en P "SyntaxWarning" 118 (.type "SyntaxWarning"), en P "UnicodeWarning" 119 (.type "UnicodeWarning"), en P "UserWarning" 120 (.type "UserWarning"), en P "BlockingIOError" 121 (.type "BlockingIOError"), en P "ChildProcessError" 122 (.type "ChildProcessError"), en P "ConnectionError" 123 (.type "ConnectionError"), en P "FileExistsError" 124 (.type "FileExistsError"), en P "FileNotFoundError" 125 (.type "FileNotFoundError"), en P "InterruptedError" 126 (.type "InterruptedError"), en P "IsADirectoryError" 127 (.type "IsADirectoryError"), en P "NotADirectoryError" 128 (.type "NotADirectoryError"), en P "PermissionError" 129 (.type "PermissionError"), en P "ProcessLookupError" 130 (.type "ProcessLookupError"), en P "TimeoutError" 131 (.type "TimeoutError"), en P "IndentationError" 132 (.type "IndentationError"), en P "_IncompleteInputError" 133 (.type "_IncompleteInputError"), en P "IndexError" 134 (.type "IndexError"), en P "KeyError" 135 (.type "KeyError"), en P "ModuleNotFoundError" 136 (.type "ModuleNotFoundError"), en P "NotImplementedError" 137 (.type "NotImplementedError"), en P "PythonFinalizationError" 138 (.type "PythonFinalizationError"), en P "RecursionError" 139 (.type "RecursionError"), en P "UnboundLocalError" 140 (.type "UnboundLocalError"), en P "UnicodeError" 141 (.type "UnicodeError"), en P "BrokenPipeError" 142 (.type "BrokenPipeError"), en P "ConnectionAbortedError" 143 (.type "ConnectionAbortedError"), en P "ConnectionRefusedError" 144 (.type "ConnectionRefusedError"), en P "ConnectionResetError" 145 (.type "ConnectionResetError"), en P "TabError" 146 (.type "TabError"), en P "UnicodeDecodeError" 147 (.type "UnicodeDecodeError"), en P "UnicodeEncodeError" 148 (.type "UnicodeEncodeError"), en P "UnicodeTranslateError" 149 (.type "UnicodeTranslateError"), en P "ExceptionGroup" 150 (.type "ExceptionGroup"), en P "EnvironmentError" 151 (.type "OSError"), en P "IOError" 152 (.type "OSError"), en P "open" 153 (.builtin "open"), en P "quit" 154 (.builtin "builtins.quit#opaque"), en P "exit" 155 (.builtin "builtins.exit#opaque"), en P "copyright" 156 (.builtin "builtins.copyright#opaque"), en P "credits" 157 (.builtin "builtins.credits#opaque"), en P "license" 158 (.builtin "builtins.license#opaque"), en P "help" 159 (.builtin "builtins.help#opaque")] 159), #[]⟩
noncomputable def ob1 (P : Params) : Obj := ⟨(.type "dict"), none, (.dict #[en P "builtins" 162 (.ref 4), en P "__main__" 163 (.ref 5)] 2), #[]⟩
noncomputable def ob2 (P : Params) : Obj := ⟨.none, none, (.dict #[en P "type.__subclasses__.Exception.0" 381 (.int 157 0), en P "type.__subclasses__.Exception.n" 382 (.int 1 0)] 2), #[]⟩
noncomputable def ob3 (P : Params) : Obj := ⟨(.type "dict"), none, (.dict #[en P "__name__" 165 (.str "law_pq0409_01" 970), en P "__doc__" 166 .none, en P "__package__" 167 .none, en P "__loader__" 168 (.builtin "__main__.__loader__#opaque"), en P "__spec__" 169 .none, en P "__annotations__" 170 (.ref 6), en P "__builtins__" 171 (.ref 4), en P "__file__" 173 (.str "/claim/cut.py" 172), en P "__cached__" 174 .none, en P "_wall" 193 (.ref 21), en P "WORD" 199 (.int 115792089237316195423570985008687907853269984665640564039457584007913129639936 198), en P "HALF" 203 (.int 57896044618658097711785492504343953926634992332820282019728792003956564819968 202), en P "ADDRESSES" 207 (.int 1461501637330902918203684832716283019655932542976 206), en P "OCTETS" 209 (.int 32 208), en P "led" 216 (.ref 28), en P "with_sign" 223 (.ref 35), en P "word_octets" 230 (.ref 42), en P "octets_word" 237 (.ref 49), en P "address_of" 244 (.ref 56), en P "quotient" 252 (.ref 63), en P "rest" 260 (.ref 70), en P "signed_quotient" 271 (.ref 77), en P "signed_rest" 282 (.ref 84), en P "power" 293 (.ref 91), en P "sum_mod" 302 (.ref 98), en P "product_mod" 311 (.ref 105), en P "octet_at" 319 (.ref 112), en P "shifted_left" 327 (.ref 119), en P "shifted_right" 335 (.ref 126), en P "shifted_signed" 343 (.ref 133), en P "widened" 353 (.ref 140), en P "MachineFault" 384 (.ref 157), en P "Halt" 400 (.ref 170), en P "push_size" 409 (.ref 179), en P "JUMPDEST" 413 (.int 91 412), en P "jump_places" 422 (.ref 186), en P "EXP_OCTET" 426 (.int 50 425), en P "HASH_WORD" 428 (.int 6 427), en P "MEMORY_WORD" 430 (.int 3 429), en P "MEMORY_SQUARE" 432 (.int 512 431), en P "words_of" 439 (.ref 193), en P "memory_cost" 446 (.ref 200), en P "exp_cost" 453 (.ref 207), en P "hash_cost" 460 (.ref 214), en P "MOST_WORDS" 466 (.int 131072 465), en P "Memory" 558 (.ref 280), en P "MOST_STACK" 562 (.int 1024 561), en P "Message" 611 (.ref 301), en P "Frame" 693 (.ref 357), en P "word_of" 703 (.ref 368), en P "op_add" 715 (.ref 375), en P "op_mul" 725 (.ref 382), en P "op_sub" 735 (.ref 389), en P "op_div" 745 (.ref 396), en P "op_sdiv" 755 (.ref 403), en P "op_mod" 765 (.ref 410), en P "op_smod" 775 (.ref 417), en P "op_addmod" 786 (.ref 424), en P "op_mulmod" 797 (.ref 431), en P "op_exp" 807 (.ref 438), en P "op_signextend" 817 (.ref 445), en P "op_lt" 827 (.ref 452), en P "op_gt" 837 (.ref 459), en P "op_slt" 847 (.ref 466), en P "op_sgt" 857 (.ref 473), en P "op_eq" 867 (.ref 480), en P "op_iszero" 875 (.ref 487), en P "op_and" 885 (.ref 494), en P "op_or" 895 (.ref 501), en P "op_xor" 905 (.ref 508), en P "op_not" 913 (.ref 515), en P "op_byte" 923 (.ref 522), en P "op_shl" 933 (.ref 529), en P "op_shr" 943 (.ref 536), en P "op_sar" 953 (.ref 543), en P "op_keccak256" 963 (.ref 550), en P "arithmetic" 969 (.ref 557), en P "_law_WORD" 977 (.ref 564), en P "_law_draw" 986 (.ref 571), en P "_law_word" 997 (.ref 578), en P "_law_second" 1007 (.ref 585), en P "_law_count" 1015 (.ref 592), en P "_law_whole" 1025 (.ref 599), en P "_law_octets" 1031 (.ref 604), en P "_law_bits" 1040 (.ref 611), en P "_law_weight" 1049 (.ref 618), en P "_law_signed" 1056 (.ref 625), en P "_law_parted" 1067 (.ref 632), en P "_law_left" 1075 (.ref 639), en P "_law_led" 1083 (.ref 646), en P "_law_power" 1094 (.ref 653), en P "_law_signed_parts" 1107 (.ref 660), en P "_law_digits" 1113 (.ref 665), en P "_law_moved" 1124 (.ref 672), en P "_law_widened" 1133 (.ref 679), en P "_law_is_read_right" 1147 (.ref 686), en P "_law_rows" 1153 (.ref 691), en P "_law_frame" 1162 (.ref 698), en P "_law_lacks_gas" 1171 (.ref 705), en P "_law_is_stepped_right" 1184 (.ref 712), en P "law" 1190 (.ref 717)] 101), #[]⟩
noncomputable def ob4 (P : Params) : Obj := ⟨(.type "module"), (some 0), .plain, #[]⟩
noncomputable def ob5 (P : Params) : Obj := ⟨(.type "module"), (some 3), .plain, #[]⟩
noncomputable def ob6 (P : Params) : Obj := ⟨(.type "dict"), none, (.dict #[] 0), #[]⟩
noncomputable def ob7 (P : Params) : Obj := ⟨(.type "tuple"), none, (.seq #[] 0), #[]⟩
noncomputable def ob8 (P : Params) : Obj := ⟨.none, none, (.fields #[]), #[]⟩
noncomputable def ob9 (P : Params) : Obj := ⟨(.type "code"), none, (.fields #[(.str "<module>" 176), (.str "<module>" 177), (.str "/claim/cut.py" 178), (.int 1 0), (.int 0 0), (.int 0 0), (.int 0 0), (.int 0 0), (.ref 7), (.bool false), (.int 175 0), (.ref 8), .none, .none, .none, .none, (.int 179 0), (.int 1 0), (.str "/claim/cut.py" 180)]), #[]⟩
noncomputable def ob10 (P : Params) : Obj := ⟨(.type "frame"), none, .plain, #[some (.ref 9), some (.ref 3), some (.ref 3), none, some (.str "__main__" 164), none, some (.ref 0)]⟩
noncomputable def ob11 (P : Params) : Obj := ⟨(.type "tuple"), none, (.seq #[] 0), #[]⟩
noncomputable def ob12 (P : Params) : Obj := ⟨.none, none, (.fields #[(.int 1 0), (.int 0 0), (.ref 20), (.int 9 0), (.int 0 0), (.ref 27), (.int 11 0), (.int 0 0), (.ref 34), (.int 13 0), (.int 0 0), (.ref 41), (.int 15 0), (.int 0 0), (.ref 48), (.int 17 0), (.int 0 0), (.ref 55), (.int 19 0), (.int 0 0), (.ref 62), (.int 21 0), (.int 0 0), (.ref 69), (.int 23 0), (.int 0 0), (.ref 76), (.int 29 0), (.int 0 0), (.ref 83), (.int 35 0), (.int 0 0), (.ref 90), (.int 43 0), (.int 0 0), (.ref 97), (.int 45 0), (.int 0 0), (.ref 104), (.int 47 0), (.int 0 0), (.ref 111), (.int 49 0), (.int 0 0), (.ref 118), (.int 51 0), (.int 0 0), (.ref 125), (.int 53 0), (.int 0 0), (.ref 132), (.int 55 0), (.int 0 0), (.ref 139), (.int 62 0), (.int 0 0), (.ref 146), (.int 67 0), (.int 0 0), (.ref 166), (.int 70 0), (.int 0 0), (.ref 178), (.int 74 0), (.int 0 0), (.ref 185), (.int 86 0), (.int 0 0), (.ref 192), (.int 88 0), (.int 0 0), (.ref 199), (.int 90 0), (.int 0 0), (.ref 206), (.int 92 0), (.int 0 0), (.ref 213), (.int 96 0), (.int 0 0), (.ref 220), (.int 136 0), (.int 0 0), (.ref 290), (.int 150 0), (.int 0 0), (.ref 311), (.int 188 0), (.int 0 0), (.ref 367), (.int 191 0), (.int 0 0), (.ref 374), (.int 194 0), (.int 0 0), (.ref 381), (.int 197 0), (.int 0 0), (.ref 388), (.int 200 0), (.int 0 0), (.ref 395), (.int 203 0), (.int 0 0), (.ref 402), (.int 206 0), (.int 0 0), (.ref 409), (.int 209 0), (.int 0 0), (.ref 416), (.int 212 0), (.int 0 0), (.ref 423), (.int 215 0), (.int 0 0), (.ref 430), (.int 218 0), (.int 0 0), (.ref 437), (.int 222 0), (.int 0 0), (.ref 444), (.int 225 0), (.int 0 0), (.ref 451), (.int 228 0), (.int 0 0), (.ref 458), (.int 231 0), (.int 0 0), (.ref 465), (.int 234 0), (.int 0 0), (.ref 472), (.int 237 0), (.int 0 0), (.ref 479), (.int 240 0), (.int 0 0), (.ref 486), (.int 242 0), (.int 0 0), (.ref 493), (.int 245 0), (.int 0 0), (.ref 500), (.int 248 0), (.int 0 0), (.ref 507), (.int 251 0), (.int 0 0), (.ref 514), (.int 253 0), (.int 0 0), (.ref 521), (.int 256 0), (.int 0 0), (.ref 528), (.int 259 0), (.int 0 0), (.ref 535), (.int 262 0), (.int 0 0), (.ref 542), (.int 265 0), (.int 0 0), (.ref 549), (.int 270 0), (.int 0 0), (.ref 556), (.int 273 0), (.int 0 0), (.ref 563), (.int 275 0), (.int 0 0), (.ref 570), (.int 280 0), (.int 0 0), (.ref 577), (.int 296 0), (.int 0 0), (.ref 584), (.int 309 0), (.int 0 0), (.ref 591), (.int 311 0), (.int 0 0), (.ref 598), (.int 314 0), (.int 0 0), (.ref 603), (.int 317 0), (.int 0 0), (.ref 610), (.int 323 0), (.int 0 0), (.ref 617), (.int 328 0), (.int 0 0), (.ref 624), (.int 330 0), (.int 0 0), (.ref 631), (.int 339 0), (.int 0 0), (.ref 638), (.int 341 0), (.int 0 0), (.ref 645), (.int 346 0), (.int 0 0), (.ref 652), (.int 354 0), (.int 0 0), (.ref 659), (.int 361 0), (.int 0 0), (.ref 664), (.int 363 0), (.int 0 0), (.ref 671), (.int 367 0), (.int 0 0), (.ref 678), (.int 370 0), (.int 0 0), (.ref 685), (.int 379 0), (.int 0 0), (.ref 690), (.int 394 0), (.int 0 0), (.ref 697), (.int 398 0), (.int 0 0), (.ref 704), (.int 404 0), (.int 0 0), (.ref 711), (.int 411 0), (.int 0 0), (.ref 716)]), #[]⟩
noncomputable def ob13 (P : Params) : Obj := ⟨(.type "code"), none, (.fields #[(.str "<module>" 182), (.str "<module>" 183), (.str "/claim/cut.py" 184), (.int 1 0), (.int 0 0), (.int 0 0), (.int 0 0), (.int 0 0), (.ref 11), (.bool false), (.int 181 0), (.ref 12), .none, .none, .none, .none, (.int 185 0), (.int 1 0), (.str "/claim/cut.py" 186)]), #[]⟩
noncomputable def ob14 (P : Params) : Obj := ⟨(.type "frame"), none, .plain, #[some (.ref 13), some (.ref 3), some (.ref 3), none, some (.str "__main__" 164), none, some (.ref 0)]⟩
noncomputable def ob15 (P : Params) : Obj := ⟨(.type "tuple"), none, (.seq #[] 0), #[]⟩
noncomputable def ob16 (P : Params) : Obj := ⟨.none, none, (.fields #[]), #[]⟩
noncomputable def ob17 (P : Params) : Obj := ⟨(.type "tuple"), none, (.seq #[(.str "k" 190)] 0), #[]⟩
noncomputable def ob18 (P : Params) : Obj := ⟨(.type "tuple"), none, (.seq #[] 0), #[]⟩
noncomputable def ob19 (P : Params) : Obj := ⟨.none, none, (.func ⟨"_wall", "_wall", stP (stAt 0), .stmts (stB (stAt 0)), stS (stAt 0), 0, [], .none, .none, .none, .none, none, .none, .none, 0⟩), #[]⟩
noncomputable def ob20 (P : Params) : Obj := ⟨(.type "code"), none, (.fields #[(.str "_wall" 187), (.str "_wall" 188), (.str "/claim/cut.py" 189), (.int 1 0), (.int 1 0), (.int 0 0), (.int 0 0), (.int 3 0), (.ref 15), (.bool true), (.int 181 0), (.ref 16), .none, (.ref 17), (.ref 18), (.ref 19), (.int 191 0), (.int 1 0), (.str "/claim/cut.py" 192)]), #[]⟩
noncomputable def ob21 (P : Params) : Obj := ⟨(.type "function"), none, (.func ⟨"_wall", "_wall", stP (stAt 0), .stmts (stB (stAt 0)), stS (stAt 0), 3, [], .none, .none, .none, (.str "__main__" 164), none, (.ref 20), .none, 0⟩), #[]⟩
noncomputable def ob22 (P : Params) : Obj := ⟨(.type "tuple"), none, (.seq #[] 0), #[]⟩
noncomputable def ob23 (P : Params) : Obj := ⟨.none, none, (.fields #[]), #[]⟩
noncomputable def ob24 (P : Params) : Obj := ⟨(.type "tuple"), none, (.seq #[(.str "n" 213)] 0), #[]⟩
noncomputable def ob25 (P : Params) : Obj := ⟨(.type "tuple"), none, (.seq #[] 0), #[]⟩
noncomputable def ob26 (P : Params) : Obj := ⟨.none, none, (.func ⟨"led", "led", stP (stAt 6), .stmts (stB (stAt 6)), stS (stAt 6), 0, [], .none, .none, .none, .none, none, .none, .none, 0⟩), #[]⟩
noncomputable def ob27 (P : Params) : Obj := ⟨(.type "code"), none, (.fields #[(.str "led" 210), (.str "led" 211), (.str "/claim/cut.py" 212), (.int 9 0), (.int 1 0), (.int 0 0), (.int 0 0), (.int 3 0), (.ref 22), (.bool true), (.int 181 0), (.ref 23), .none, (.ref 24), (.ref 25), (.ref 26), (.int 214 0), (.int 9 0), (.str "/claim/cut.py" 215)]), #[]⟩
noncomputable def ob28 (P : Params) : Obj := ⟨(.type "function"), none, (.func ⟨"led", "led", stP (stAt 6), .stmts (stB (stAt 6)), stS (stAt 6), 3, [], .none, .none, .none, (.str "gasledger.words" 194), none, (.ref 27), .none, 0⟩), #[]⟩
noncomputable def ob29 (P : Params) : Obj := ⟨(.type "tuple"), none, (.seq #[] 0), #[]⟩
noncomputable def ob30 (P : Params) : Obj := ⟨.none, none, (.fields #[]), #[]⟩
noncomputable def ob31 (P : Params) : Obj := ⟨(.type "tuple"), none, (.seq #[(.str "w" 220)] 0), #[]⟩
noncomputable def ob32 (P : Params) : Obj := ⟨(.type "tuple"), none, (.seq #[] 0), #[]⟩
noncomputable def ob33 (P : Params) : Obj := ⟨.none, none, (.func ⟨"with_sign", "with_sign", stP (stAt 7), .stmts (stB (stAt 7)), stS (stAt 7), 0, [], .none, .none, .none, .none, none, .none, .none, 0⟩), #[]⟩
noncomputable def ob34 (P : Params) : Obj := ⟨(.type "code"), none, (.fields #[(.str "with_sign" 217), (.str "with_sign" 218), (.str "/claim/cut.py" 219), (.int 11 0), (.int 1 0), (.int 0 0), (.int 0 0), (.int 3 0), (.ref 29), (.bool true), (.int 181 0), (.ref 30), .none, (.ref 31), (.ref 32), (.ref 33), (.int 221 0), (.int 11 0), (.str "/claim/cut.py" 222)]), #[]⟩
noncomputable def ob35 (P : Params) : Obj := ⟨(.type "function"), none, (.func ⟨"with_sign", "with_sign", stP (stAt 7), .stmts (stB (stAt 7)), stS (stAt 7), 3, [], .none, .none, .none, (.str "gasledger.words" 194), none, (.ref 34), .none, 0⟩), #[]⟩
noncomputable def ob36 (P : Params) : Obj := ⟨(.type "tuple"), none, (.seq #[] 0), #[]⟩
noncomputable def ob37 (P : Params) : Obj := ⟨.none, none, (.fields #[]), #[]⟩
noncomputable def ob38 (P : Params) : Obj := ⟨(.type "tuple"), none, (.seq #[(.str "w" 227)] 0), #[]⟩
noncomputable def ob39 (P : Params) : Obj := ⟨(.type "tuple"), none, (.seq #[] 0), #[]⟩
noncomputable def ob40 (P : Params) : Obj := ⟨.none, none, (.func ⟨"word_octets", "word_octets", stP (stAt 8), .stmts (stB (stAt 8)), stS (stAt 8), 0, [], .none, .none, .none, .none, none, .none, .none, 0⟩), #[]⟩
noncomputable def ob41 (P : Params) : Obj := ⟨(.type "code"), none, (.fields #[(.str "word_octets" 224), (.str "word_octets" 225), (.str "/claim/cut.py" 226), (.int 13 0), (.int 1 0), (.int 0 0), (.int 0 0), (.int 3 0), (.ref 36), (.bool true), (.int 181 0), (.ref 37), .none, (.ref 38), (.ref 39), (.ref 40), (.int 228 0), (.int 13 0), (.str "/claim/cut.py" 229)]), #[]⟩
noncomputable def ob42 (P : Params) : Obj := ⟨(.type "function"), none, (.func ⟨"word_octets", "word_octets", stP (stAt 8), .stmts (stB (stAt 8)), stS (stAt 8), 3, [], .none, .none, .none, (.str "gasledger.words" 194), none, (.ref 41), .none, 0⟩), #[]⟩
noncomputable def ob43 (P : Params) : Obj := ⟨(.type "tuple"), none, (.seq #[] 0), #[]⟩
noncomputable def ob44 (P : Params) : Obj := ⟨.none, none, (.fields #[]), #[]⟩
noncomputable def ob45 (P : Params) : Obj := ⟨(.type "tuple"), none, (.seq #[(.str "octets" 234)] 0), #[]⟩
noncomputable def ob46 (P : Params) : Obj := ⟨(.type "tuple"), none, (.seq #[] 0), #[]⟩
noncomputable def ob47 (P : Params) : Obj := ⟨.none, none, (.func ⟨"octets_word", "octets_word", stP (stAt 9), .stmts (stB (stAt 9)), stS (stAt 9), 0, [], .none, .none, .none, .none, none, .none, .none, 0⟩), #[]⟩
noncomputable def ob48 (P : Params) : Obj := ⟨(.type "code"), none, (.fields #[(.str "octets_word" 231), (.str "octets_word" 232), (.str "/claim/cut.py" 233), (.int 15 0), (.int 1 0), (.int 0 0), (.int 0 0), (.int 3 0), (.ref 43), (.bool true), (.int 181 0), (.ref 44), .none, (.ref 45), (.ref 46), (.ref 47), (.int 235 0), (.int 15 0), (.str "/claim/cut.py" 236)]), #[]⟩
noncomputable def ob49 (P : Params) : Obj := ⟨(.type "function"), none, (.func ⟨"octets_word", "octets_word", stP (stAt 9), .stmts (stB (stAt 9)), stS (stAt 9), 3, [], .none, .none, .none, (.str "gasledger.words" 194), none, (.ref 48), .none, 0⟩), #[]⟩
noncomputable def ob50 (P : Params) : Obj := ⟨(.type "tuple"), none, (.seq #[] 0), #[]⟩
noncomputable def ob51 (P : Params) : Obj := ⟨.none, none, (.fields #[]), #[]⟩
noncomputable def ob52 (P : Params) : Obj := ⟨(.type "tuple"), none, (.seq #[(.str "w" 241)] 0), #[]⟩
noncomputable def ob53 (P : Params) : Obj := ⟨(.type "tuple"), none, (.seq #[] 0), #[]⟩
noncomputable def ob54 (P : Params) : Obj := ⟨.none, none, (.func ⟨"address_of", "address_of", stP (stAt 10), .stmts (stB (stAt 10)), stS (stAt 10), 0, [], .none, .none, .none, .none, none, .none, .none, 0⟩), #[]⟩
noncomputable def ob55 (P : Params) : Obj := ⟨(.type "code"), none, (.fields #[(.str "address_of" 238), (.str "address_of" 239), (.str "/claim/cut.py" 240), (.int 17 0), (.int 1 0), (.int 0 0), (.int 0 0), (.int 3 0), (.ref 50), (.bool true), (.int 181 0), (.ref 51), .none, (.ref 52), (.ref 53), (.ref 54), (.int 242 0), (.int 17 0), (.str "/claim/cut.py" 243)]), #[]⟩
noncomputable def ob56 (P : Params) : Obj := ⟨(.type "function"), none, (.func ⟨"address_of", "address_of", stP (stAt 10), .stmts (stB (stAt 10)), stS (stAt 10), 3, [], .none, .none, .none, (.str "gasledger.words" 194), none, (.ref 55), .none, 0⟩), #[]⟩
noncomputable def ob57 (P : Params) : Obj := ⟨(.type "tuple"), none, (.seq #[] 0), #[]⟩
noncomputable def ob58 (P : Params) : Obj := ⟨.none, none, (.fields #[]), #[]⟩
noncomputable def ob59 (P : Params) : Obj := ⟨(.type "tuple"), none, (.seq #[(.str "a" 248), (.str "b" 249)] 0), #[]⟩
noncomputable def ob60 (P : Params) : Obj := ⟨(.type "tuple"), none, (.seq #[] 0), #[]⟩
noncomputable def ob61 (P : Params) : Obj := ⟨.none, none, (.func ⟨"quotient", "quotient", stP (stAt 11), .stmts (stB (stAt 11)), stS (stAt 11), 0, [], .none, .none, .none, .none, none, .none, .none, 0⟩), #[]⟩
noncomputable def ob62 (P : Params) : Obj := ⟨(.type "code"), none, (.fields #[(.str "quotient" 245), (.str "quotient" 246), (.str "/claim/cut.py" 247), (.int 19 0), (.int 2 0), (.int 0 0), (.int 0 0), (.int 3 0), (.ref 57), (.bool true), (.int 181 0), (.ref 58), .none, (.ref 59), (.ref 60), (.ref 61), (.int 250 0), (.int 19 0), (.str "/claim/cut.py" 251)]), #[]⟩
noncomputable def ob63 (P : Params) : Obj := ⟨(.type "function"), none, (.func ⟨"quotient", "quotient", stP (stAt 11), .stmts (stB (stAt 11)), stS (stAt 11), 3, [], .none, .none, .none, (.str "gasledger.words" 194), none, (.ref 62), .none, 0⟩), #[]⟩
noncomputable def ob64 (P : Params) : Obj := ⟨(.type "tuple"), none, (.seq #[] 0), #[]⟩
noncomputable def ob65 (P : Params) : Obj := ⟨.none, none, (.fields #[]), #[]⟩
noncomputable def ob66 (P : Params) : Obj := ⟨(.type "tuple"), none, (.seq #[(.str "a" 256), (.str "b" 257)] 0), #[]⟩
noncomputable def ob67 (P : Params) : Obj := ⟨(.type "tuple"), none, (.seq #[] 0), #[]⟩
noncomputable def ob68 (P : Params) : Obj := ⟨.none, none, (.func ⟨"rest", "rest", stP (stAt 12), .stmts (stB (stAt 12)), stS (stAt 12), 0, [], .none, .none, .none, .none, none, .none, .none, 0⟩), #[]⟩
noncomputable def ob69 (P : Params) : Obj := ⟨(.type "code"), none, (.fields #[(.str "rest" 253), (.str "rest" 254), (.str "/claim/cut.py" 255), (.int 21 0), (.int 2 0), (.int 0 0), (.int 0 0), (.int 3 0), (.ref 64), (.bool true), (.int 181 0), (.ref 65), .none, (.ref 66), (.ref 67), (.ref 68), (.int 258 0), (.int 21 0), (.str "/claim/cut.py" 259)]), #[]⟩
noncomputable def ob70 (P : Params) : Obj := ⟨(.type "function"), none, (.func ⟨"rest", "rest", stP (stAt 12), .stmts (stB (stAt 12)), stS (stAt 12), 3, [], .none, .none, .none, (.str "gasledger.words" 194), none, (.ref 69), .none, 0⟩), #[]⟩
noncomputable def ob71 (P : Params) : Obj := ⟨(.type "tuple"), none, (.seq #[] 0), #[]⟩
noncomputable def ob72 (P : Params) : Obj := ⟨.none, none, (.fields #[]), #[]⟩
noncomputable def ob73 (P : Params) : Obj := ⟨(.type "tuple"), none, (.seq #[(.str "a" 264), (.str "b" 265), (.str "one" 266), (.str "other" 267), (.str "found" 268)] 0), #[]⟩
noncomputable def ob74 (P : Params) : Obj := ⟨(.type "tuple"), none, (.seq #[] 0), #[]⟩
noncomputable def ob75 (P : Params) : Obj := ⟨.none, none, (.func ⟨"signed_quotient", "signed_quotient", stP (stAt 13), .stmts (stB (stAt 13)), stS (stAt 13), 0, [], .none, .none, .none, .none, none, .none, .none, 0⟩), #[]⟩
noncomputable def ob76 (P : Params) : Obj := ⟨(.type "code"), none, (.fields #[(.str "signed_quotient" 261), (.str "signed_quotient" 262), (.str "/claim/cut.py" 263), (.int 23 0), (.int 2 0), (.int 0 0), (.int 0 0), (.int 3 0), (.ref 71), (.bool true), (.int 181 0), (.ref 72), .none, (.ref 73), (.ref 74), (.ref 75), (.int 269 0), (.int 23 0), (.str "/claim/cut.py" 270)]), #[]⟩
noncomputable def ob77 (P : Params) : Obj := ⟨(.type "function"), none, (.func ⟨"signed_quotient", "signed_quotient", stP (stAt 13), .stmts (stB (stAt 13)), stS (stAt 13), 3, [], .none, .none, .none, (.str "gasledger.words" 194), none, (.ref 76), .none, 0⟩), #[]⟩
noncomputable def ob78 (P : Params) : Obj := ⟨(.type "tuple"), none, (.seq #[] 0), #[]⟩
noncomputable def ob79 (P : Params) : Obj := ⟨.none, none, (.fields #[]), #[]⟩
noncomputable def ob80 (P : Params) : Obj := ⟨(.type "tuple"), none, (.seq #[(.str "a" 275), (.str "b" 276), (.str "one" 277), (.str "other" 278), (.str "found" 279)] 0), #[]⟩
noncomputable def ob81 (P : Params) : Obj := ⟨(.type "tuple"), none, (.seq #[] 0), #[]⟩
noncomputable def ob82 (P : Params) : Obj := ⟨.none, none, (.func ⟨"signed_rest", "signed_rest", stP (stAt 14), .stmts (stB (stAt 14)), stS (stAt 14), 0, [], .none, .none, .none, .none, none, .none, .none, 0⟩), #[]⟩
noncomputable def ob83 (P : Params) : Obj := ⟨(.type "code"), none, (.fields #[(.str "signed_rest" 272), (.str "signed_rest" 273), (.str "/claim/cut.py" 274), (.int 29 0), (.int 2 0), (.int 0 0), (.int 0 0), (.int 3 0), (.ref 78), (.bool true), (.int 181 0), (.ref 79), .none, (.ref 80), (.ref 81), (.ref 82), (.int 280 0), (.int 29 0), (.str "/claim/cut.py" 281)]), #[]⟩
noncomputable def ob84 (P : Params) : Obj := ⟨(.type "function"), none, (.func ⟨"signed_rest", "signed_rest", stP (stAt 14), .stmts (stB (stAt 14)), stS (stAt 14), 3, [], .none, .none, .none, (.str "gasledger.words" 194), none, (.ref 83), .none, 0⟩), #[]⟩
noncomputable def ob85 (P : Params) : Obj := ⟨(.type "tuple"), none, (.seq #[] 0), #[]⟩
noncomputable def ob86 (P : Params) : Obj := ⟨.none, none, (.fields #[]), #[]⟩
noncomputable def ob87 (P : Params) : Obj := ⟨(.type "tuple"), none, (.seq #[(.str "a" 286), (.str "b" 287), (.str "found" 288), (.str "base" 289), (.str "left" 290)] 0), #[]⟩
noncomputable def ob88 (P : Params) : Obj := ⟨(.type "tuple"), none, (.seq #[] 0), #[]⟩
noncomputable def ob89 (P : Params) : Obj := ⟨.none, none, (.func ⟨"power", "power", stP (stAt 15), .stmts (stB (stAt 15)), stS (stAt 15), 0, [], .none, .none, .none, .none, none, .none, .none, 0⟩), #[]⟩
noncomputable def ob90 (P : Params) : Obj := ⟨(.type "code"), none, (.fields #[(.str "power" 283), (.str "power" 284), (.str "/claim/cut.py" 285), (.int 35 0), (.int 2 0), (.int 0 0), (.int 0 0), (.int 3 0), (.ref 85), (.bool true), (.int 181 0), (.ref 86), .none, (.ref 87), (.ref 88), (.ref 89), (.int 291 0), (.int 35 0), (.str "/claim/cut.py" 292)]), #[]⟩
noncomputable def ob91 (P : Params) : Obj := ⟨(.type "function"), none, (.func ⟨"power", "power", stP (stAt 15), .stmts (stB (stAt 15)), stS (stAt 15), 3, [], .none, .none, .none, (.str "gasledger.words" 194), none, (.ref 90), .none, 0⟩), #[]⟩
noncomputable def ob92 (P : Params) : Obj := ⟨(.type "tuple"), none, (.seq #[] 0), #[]⟩
noncomputable def ob93 (P : Params) : Obj := ⟨.none, none, (.fields #[]), #[]⟩
noncomputable def ob94 (P : Params) : Obj := ⟨(.type "tuple"), none, (.seq #[(.str "a" 297), (.str "b" 298), (.str "m" 299)] 0), #[]⟩
noncomputable def ob95 (P : Params) : Obj := ⟨(.type "tuple"), none, (.seq #[] 0), #[]⟩
noncomputable def ob96 (P : Params) : Obj := ⟨.none, none, (.func ⟨"sum_mod", "sum_mod", stP (stAt 16), .stmts (stB (stAt 16)), stS (stAt 16), 0, [], .none, .none, .none, .none, none, .none, .none, 0⟩), #[]⟩
noncomputable def ob97 (P : Params) : Obj := ⟨(.type "code"), none, (.fields #[(.str "sum_mod" 294), (.str "sum_mod" 295), (.str "/claim/cut.py" 296), (.int 43 0), (.int 3 0), (.int 0 0), (.int 0 0), (.int 3 0), (.ref 92), (.bool true), (.int 181 0), (.ref 93), .none, (.ref 94), (.ref 95), (.ref 96), (.int 300 0), (.int 43 0), (.str "/claim/cut.py" 301)]), #[]⟩
noncomputable def ob98 (P : Params) : Obj := ⟨(.type "function"), none, (.func ⟨"sum_mod", "sum_mod", stP (stAt 16), .stmts (stB (stAt 16)), stS (stAt 16), 3, [], .none, .none, .none, (.str "gasledger.words" 194), none, (.ref 97), .none, 0⟩), #[]⟩
noncomputable def ob99 (P : Params) : Obj := ⟨(.type "tuple"), none, (.seq #[] 0), #[]⟩
noncomputable def ob100 (P : Params) : Obj := ⟨.none, none, (.fields #[]), #[]⟩
noncomputable def ob101 (P : Params) : Obj := ⟨(.type "tuple"), none, (.seq #[(.str "a" 306), (.str "b" 307), (.str "m" 308)] 0), #[]⟩
noncomputable def ob102 (P : Params) : Obj := ⟨(.type "tuple"), none, (.seq #[] 0), #[]⟩
noncomputable def ob103 (P : Params) : Obj := ⟨.none, none, (.func ⟨"product_mod", "product_mod", stP (stAt 17), .stmts (stB (stAt 17)), stS (stAt 17), 0, [], .none, .none, .none, .none, none, .none, .none, 0⟩), #[]⟩
noncomputable def ob104 (P : Params) : Obj := ⟨(.type "code"), none, (.fields #[(.str "product_mod" 303), (.str "product_mod" 304), (.str "/claim/cut.py" 305), (.int 45 0), (.int 3 0), (.int 0 0), (.int 0 0), (.int 3 0), (.ref 99), (.bool true), (.int 181 0), (.ref 100), .none, (.ref 101), (.ref 102), (.ref 103), (.int 309 0), (.int 45 0), (.str "/claim/cut.py" 310)]), #[]⟩
noncomputable def ob105 (P : Params) : Obj := ⟨(.type "function"), none, (.func ⟨"product_mod", "product_mod", stP (stAt 17), .stmts (stB (stAt 17)), stS (stAt 17), 3, [], .none, .none, .none, (.str "gasledger.words" 194), none, (.ref 104), .none, 0⟩), #[]⟩
noncomputable def ob106 (P : Params) : Obj := ⟨(.type "tuple"), none, (.seq #[] 0), #[]⟩
noncomputable def ob107 (P : Params) : Obj := ⟨.none, none, (.fields #[]), #[]⟩
noncomputable def ob108 (P : Params) : Obj := ⟨(.type "tuple"), none, (.seq #[(.str "place" 315), (.str "w" 316)] 0), #[]⟩
noncomputable def ob109 (P : Params) : Obj := ⟨(.type "tuple"), none, (.seq #[] 0), #[]⟩
noncomputable def ob110 (P : Params) : Obj := ⟨.none, none, (.func ⟨"octet_at", "octet_at", stP (stAt 18), .stmts (stB (stAt 18)), stS (stAt 18), 0, [], .none, .none, .none, .none, none, .none, .none, 0⟩), #[]⟩
noncomputable def ob111 (P : Params) : Obj := ⟨(.type "code"), none, (.fields #[(.str "octet_at" 312), (.str "octet_at" 313), (.str "/claim/cut.py" 314), (.int 47 0), (.int 2 0), (.int 0 0), (.int 0 0), (.int 3 0), (.ref 106), (.bool true), (.int 181 0), (.ref 107), .none, (.ref 108), (.ref 109), (.ref 110), (.int 317 0), (.int 47 0), (.str "/claim/cut.py" 318)]), #[]⟩
noncomputable def ob112 (P : Params) : Obj := ⟨(.type "function"), none, (.func ⟨"octet_at", "octet_at", stP (stAt 18), .stmts (stB (stAt 18)), stS (stAt 18), 3, [], .none, .none, .none, (.str "gasledger.words" 194), none, (.ref 111), .none, 0⟩), #[]⟩
noncomputable def ob113 (P : Params) : Obj := ⟨(.type "tuple"), none, (.seq #[] 0), #[]⟩
noncomputable def ob114 (P : Params) : Obj := ⟨.none, none, (.fields #[]), #[]⟩
noncomputable def ob115 (P : Params) : Obj := ⟨(.type "tuple"), none, (.seq #[(.str "by" 323), (.str "w" 324)] 0), #[]⟩
noncomputable def ob116 (P : Params) : Obj := ⟨(.type "tuple"), none, (.seq #[] 0), #[]⟩
noncomputable def ob117 (P : Params) : Obj := ⟨.none, none, (.func ⟨"shifted_left", "shifted_left", stP (stAt 19), .stmts (stB (stAt 19)), stS (stAt 19), 0, [], .none, .none, .none, .none, none, .none, .none, 0⟩), #[]⟩
noncomputable def ob118 (P : Params) : Obj := ⟨(.type "code"), none, (.fields #[(.str "shifted_left" 320), (.str "shifted_left" 321), (.str "/claim/cut.py" 322), (.int 49 0), (.int 2 0), (.int 0 0), (.int 0 0), (.int 3 0), (.ref 113), (.bool true), (.int 181 0), (.ref 114), .none, (.ref 115), (.ref 116), (.ref 117), (.int 325 0), (.int 49 0), (.str "/claim/cut.py" 326)]), #[]⟩
noncomputable def ob119 (P : Params) : Obj := ⟨(.type "function"), none, (.func ⟨"shifted_left", "shifted_left", stP (stAt 19), .stmts (stB (stAt 19)), stS (stAt 19), 3, [], .none, .none, .none, (.str "gasledger.words" 194), none, (.ref 118), .none, 0⟩), #[]⟩
noncomputable def ob120 (P : Params) : Obj := ⟨(.type "tuple"), none, (.seq #[] 0), #[]⟩
noncomputable def ob121 (P : Params) : Obj := ⟨.none, none, (.fields #[]), #[]⟩
noncomputable def ob122 (P : Params) : Obj := ⟨(.type "tuple"), none, (.seq #[(.str "by" 331), (.str "w" 332)] 0), #[]⟩
noncomputable def ob123 (P : Params) : Obj := ⟨(.type "tuple"), none, (.seq #[] 0), #[]⟩
noncomputable def ob124 (P : Params) : Obj := ⟨.none, none, (.func ⟨"shifted_right", "shifted_right", stP (stAt 20), .stmts (stB (stAt 20)), stS (stAt 20), 0, [], .none, .none, .none, .none, none, .none, .none, 0⟩), #[]⟩
noncomputable def ob125 (P : Params) : Obj := ⟨(.type "code"), none, (.fields #[(.str "shifted_right" 328), (.str "shifted_right" 329), (.str "/claim/cut.py" 330), (.int 51 0), (.int 2 0), (.int 0 0), (.int 0 0), (.int 3 0), (.ref 120), (.bool true), (.int 181 0), (.ref 121), .none, (.ref 122), (.ref 123), (.ref 124), (.int 333 0), (.int 51 0), (.str "/claim/cut.py" 334)]), #[]⟩
noncomputable def ob126 (P : Params) : Obj := ⟨(.type "function"), none, (.func ⟨"shifted_right", "shifted_right", stP (stAt 20), .stmts (stB (stAt 20)), stS (stAt 20), 3, [], .none, .none, .none, (.str "gasledger.words" 194), none, (.ref 125), .none, 0⟩), #[]⟩
noncomputable def ob127 (P : Params) : Obj := ⟨(.type "tuple"), none, (.seq #[] 0), #[]⟩
noncomputable def ob128 (P : Params) : Obj := ⟨.none, none, (.fields #[]), #[]⟩
noncomputable def ob129 (P : Params) : Obj := ⟨(.type "tuple"), none, (.seq #[(.str "by" 339), (.str "w" 340)] 0), #[]⟩
noncomputable def ob130 (P : Params) : Obj := ⟨(.type "tuple"), none, (.seq #[] 0), #[]⟩
noncomputable def ob131 (P : Params) : Obj := ⟨.none, none, (.func ⟨"shifted_signed", "shifted_signed", stP (stAt 21), .stmts (stB (stAt 21)), stS (stAt 21), 0, [], .none, .none, .none, .none, none, .none, .none, 0⟩), #[]⟩
noncomputable def ob132 (P : Params) : Obj := ⟨(.type "code"), none, (.fields #[(.str "shifted_signed" 336), (.str "shifted_signed" 337), (.str "/claim/cut.py" 338), (.int 53 0), (.int 2 0), (.int 0 0), (.int 0 0), (.int 3 0), (.ref 127), (.bool true), (.int 181 0), (.ref 128), .none, (.ref 129), (.ref 130), (.ref 131), (.int 341 0), (.int 53 0), (.str "/claim/cut.py" 342)]), #[]⟩
noncomputable def ob133 (P : Params) : Obj := ⟨(.type "function"), none, (.func ⟨"shifted_signed", "shifted_signed", stP (stAt 21), .stmts (stB (stAt 21)), stS (stAt 21), 3, [], .none, .none, .none, (.str "gasledger.words" 194), none, (.ref 132), .none, 0⟩), #[]⟩
noncomputable def ob134 (P : Params) : Obj := ⟨(.type "tuple"), none, (.seq #[] 0), #[]⟩
noncomputable def ob135 (P : Params) : Obj := ⟨.none, none, (.fields #[]), #[]⟩
noncomputable def ob136 (P : Params) : Obj := ⟨(.type "tuple"), none, (.seq #[(.str "place" 347), (.str "w" 348), (.str "bit" 349), (.str "low" 350)] 0), #[]⟩
noncomputable def ob137 (P : Params) : Obj := ⟨(.type "tuple"), none, (.seq #[] 0), #[]⟩
noncomputable def ob138 (P : Params) : Obj := ⟨.none, none, (.func ⟨"widened", "widened", stP (stAt 22), .stmts (stB (stAt 22)), stS (stAt 22), 0, [], .none, .none, .none, .none, none, .none, .none, 0⟩), #[]⟩
noncomputable def ob139 (P : Params) : Obj := ⟨(.type "code"), none, (.fields #[(.str "widened" 344), (.str "widened" 345), (.str "/claim/cut.py" 346), (.int 55 0), (.int 2 0), (.int 0 0), (.int 0 0), (.int 3 0), (.ref 134), (.bool true), (.int 181 0), (.ref 135), .none, (.ref 136), (.ref 137), (.ref 138), (.int 351 0), (.int 55 0), (.str "/claim/cut.py" 352)]), #[]⟩
noncomputable def ob140 (P : Params) : Obj := ⟨(.type "function"), none, (.func ⟨"widened", "widened", stP (stAt 22), .stmts (stB (stAt 22)), stS (stAt 22), 3, [], .none, .none, .none, (.str "gasledger.words" 194), none, (.ref 139), .none, 0⟩), #[]⟩
noncomputable def ob141 (P : Params) : Obj := ⟨(.type "tuple"), none, (.seq #[(.type "Exception")] 0), #[]⟩
noncomputable def ob142 (P : Params) : Obj := ⟨(.type "builtin_function_or_method"), none, (.fields #[(.builtin "type.__prepare__"), (.type "type")]), #[]⟩
noncomputable def ob143 (P : Params) : Obj := ⟨(.type "dict"), none, (.dict #[en P "__module__" 363 (.str "gasledger.errors" 354), en P "__qualname__" 365 (.str "MachineFault" 364), en P "__firstlineno__" 367 (.int 62 366), en P "__init__" 375 (.ref 154), en P "__static_attributes__" 377 (.ref 155)] 5), #[]⟩
noncomputable def ob144 (P : Params) : Obj := ⟨(.type "tuple"), none, (.seq #[] 0), #[]⟩
noncomputable def ob145 (P : Params) : Obj := ⟨.none, none, (.fields #[(.int 64 0), (.int 4 0), (.ref 153)]), #[]⟩
noncomputable def ob146 (P : Params) : Obj := ⟨(.type "code"), none, (.fields #[(.str "MachineFault" 358), (.str "MachineFault" 359), (.str "/claim/cut.py" 360), (.int 62 0), (.int 0 0), (.int 0 0), (.int 0 0), (.int 0 0), (.ref 144), (.bool false), (.int 181 0), (.ref 145), .none, .none, .none, .none, (.int 361 0), (.int 62 0), (.str "/claim/cut.py" 362)]), #[]⟩
noncomputable def ob147 (P : Params) : Obj := ⟨(.type "frame"), none, .plain, #[some (.ref 146), some (.ref 3), some (.ref 143), none, some (.str "gasledger.errors" 354), none, some (.ref 0)]⟩
noncomputable def ob148 (P : Params) : Obj := ⟨(.type "tuple"), none, (.seq #[] 0), #[]⟩
noncomputable def ob149 (P : Params) : Obj := ⟨.none, none, (.fields #[]), #[]⟩
noncomputable def ob150 (P : Params) : Obj := ⟨(.type "tuple"), none, (.seq #[(.str "self" 371), (.str "word" 372)] 0), #[]⟩
noncomputable def ob151 (P : Params) : Obj := ⟨(.type "tuple"), none, (.seq #[] 0), #[]⟩
noncomputable def ob152 (P : Params) : Obj := ⟨.none, none, (.func ⟨"__init__", "MachineFault.__init__", stP (stIn 24 0), .stmts (stB (stIn 24 0)), stS (stIn 24 0), 0, [], .none, .none, .none, .none, none, .none, .none, 0⟩), #[]⟩
noncomputable def ob153 (P : Params) : Obj := ⟨(.type "code"), none, (.fields #[(.str "__init__" 368), (.str "MachineFault.__init__" 369), (.str "/claim/cut.py" 370), (.int 64 0), (.int 2 0), (.int 0 0), (.int 0 0), (.int 3 0), (.ref 148), (.bool true), (.int 181 0), (.ref 149), .none, (.ref 150), (.ref 151), (.ref 152), (.int 373 0), (.int 64 0), (.str "/claim/cut.py" 374)]), #[]⟩
noncomputable def ob154 (P : Params) : Obj := ⟨(.type "function"), none, (.func ⟨"__init__", "MachineFault.__init__", stP (stIn 24 0), .stmts (stB (stIn 24 0)), stS (stIn 24 0), 3, [], .none, .none, .none, (.str "gasledger.errors" 354), none, (.ref 153), .none, 0⟩), #[]⟩
noncomputable def ob155 (P : Params) : Obj := ⟨(.type "tuple"), none, (.seq #[(.str "word" 376)] 0), #[]⟩
noncomputable def ob156 (P : Params) : Obj := ⟨(.type "dict"), none, (.dict #[en P "__module__" 363 (.str "gasledger.errors" 354), en P "__firstlineno__" 367 (.int 62 366), en P "__init__" 375 (.ref 154), en P "__static_attributes__" 377 (.ref 155), en P "__weakref__" 379 (.ref 158), en P "__doc__" 380 .none] 3), #[]⟩
noncomputable def ob157 (P : Params) : Obj := ⟨(.type "type"), none, (.cls ⟨"MachineFault", [(.type "Exception")], [(.ref 157), (.type "Exception"), (.type "BaseException"), (.type "object")], 156, "MachineFault", true, [], [(.ref 170)], false, none, false⟩), #[some (.ref 141), none, some (.str "MachineFault" 356), some (.str "MachineFault" 364), some (.builtin "Exception.__new__"), some (.bool true)]⟩
noncomputable def ob158 (P : Params) : Obj := ⟨(.type "getset_descriptor"), none, (.fields #[(.str "__weakref__" 378), (.ref 157), (.builtin "ExceptionGroup.__weakref__"), .none]), #[]⟩
noncomputable def ob159 (P : Params) : Obj := ⟨(.type "super"), none, (.fields #[(.ref 157), (.ref 157), (.ref 157)]), #[]⟩
noncomputable def ob160 (P : Params) : Obj := ⟨(.type "builtin_function_or_method"), none, (.fields #[(.builtin "object.__init_subclass__"), (.ref 157)]), #[]⟩
noncomputable def ob161 (P : Params) : Obj := ⟨(.type "tuple"), none, (.seq #[(.ref 157)] 0), #[]⟩
noncomputable def ob162 (P : Params) : Obj := ⟨(.type "builtin_function_or_method"), none, (.fields #[(.builtin "type.__prepare__"), (.type "type")]), #[]⟩
noncomputable def ob163 (P : Params) : Obj := ⟨(.type "dict"), none, (.dict #[en P "__module__" 392 (.str "gasledger.errors" 354), en P "__qualname__" 394 (.str "Halt" 393), en P "__firstlineno__" 396 (.int 67 395), en P "__static_attributes__" 397 (.ref 168)] 4), #[]⟩
noncomputable def ob164 (P : Params) : Obj := ⟨(.type "tuple"), none, (.seq #[] 0), #[]⟩
noncomputable def ob165 (P : Params) : Obj := ⟨.none, none, (.fields #[]), #[]⟩
noncomputable def ob166 (P : Params) : Obj := ⟨(.type "code"), none, (.fields #[(.str "Halt" 387), (.str "Halt" 388), (.str "/claim/cut.py" 389), (.int 67 0), (.int 0 0), (.int 0 0), (.int 0 0), (.int 0 0), (.ref 164), (.bool false), (.int 181 0), (.ref 165), .none, .none, .none, .none, (.int 390 0), (.int 67 0), (.str "/claim/cut.py" 391)]), #[]⟩
noncomputable def ob167 (P : Params) : Obj := ⟨(.type "frame"), none, .plain, #[some (.ref 166), some (.ref 3), some (.ref 163), none, some (.str "gasledger.errors" 354), none, some (.ref 0)]⟩
noncomputable def ob168 (P : Params) : Obj := ⟨(.type "tuple"), none, (.seq #[] 0), #[]⟩
noncomputable def ob169 (P : Params) : Obj := ⟨(.type "dict"), none, (.dict #[en P "__module__" 392 (.str "gasledger.errors" 354), en P "__firstlineno__" 396 (.int 67 395), en P "__static_attributes__" 397 (.ref 168), en P "__doc__" 398 .none] 2), #[]⟩
noncomputable def ob170 (P : Params) : Obj := ⟨(.type "type"), none, (.cls ⟨"Halt", [(.ref 157)], [(.ref 170), (.ref 157), (.type "Exception"), (.type "BaseException"), (.type "object")], 169, "Halt", true, [], [], false, none, false⟩), #[some (.ref 161), none, some (.str "Halt" 385), some (.str "Halt" 393), some (.builtin "Exception.__new__"), some (.bool true)]⟩
noncomputable def ob171 (P : Params) : Obj := ⟨(.type "super"), none, (.fields #[(.ref 170), (.ref 170), (.ref 170)]), #[]⟩
noncomputable def ob172 (P : Params) : Obj := ⟨(.type "builtin_function_or_method"), none, (.fields #[(.builtin "object.__init_subclass__"), (.ref 170)]), #[]⟩
noncomputable def ob173 (P : Params) : Obj := ⟨(.type "tuple"), none, (.seq #[] 0), #[]⟩
noncomputable def ob174 (P : Params) : Obj := ⟨.none, none, (.fields #[]), #[]⟩
noncomputable def ob175 (P : Params) : Obj := ⟨(.type "tuple"), none, (.seq #[(.str "number" 406)] 0), #[]⟩
noncomputable def ob176 (P : Params) : Obj := ⟨(.type "tuple"), none, (.seq #[] 0), #[]⟩
noncomputable def ob177 (P : Params) : Obj := ⟨.none, none, (.func ⟨"push_size", "push_size", stP (stAt 27), .stmts (stB (stAt 27)), stS (stAt 27), 0, [], .none, .none, .none, .none, none, .none, .none, 0⟩), #[]⟩
noncomputable def ob178 (P : Params) : Obj := ⟨(.type "code"), none, (.fields #[(.str "push_size" 403), (.str "push_size" 404), (.str "/claim/cut.py" 405), (.int 70 0), (.int 1 0), (.int 0 0), (.int 0 0), (.int 3 0), (.ref 173), (.bool true), (.int 181 0), (.ref 174), .none, (.ref 175), (.ref 176), (.ref 177), (.int 407 0), (.int 70 0), (.str "/claim/cut.py" 408)]), #[]⟩
noncomputable def ob179 (P : Params) : Obj := ⟨(.type "function"), none, (.func ⟨"push_size", "push_size", stP (stAt 27), .stmts (stB (stAt 27)), stS (stAt 27), 3, [], .none, .none, .none, (.str "gasledger.opcodes" 401), none, (.ref 178), .none, 0⟩), #[]⟩
noncomputable def ob180 (P : Params) : Obj := ⟨(.type "tuple"), none, (.seq #[] 0), #[]⟩
noncomputable def ob181 (P : Params) : Obj := ⟨.none, none, (.fields #[]), #[]⟩
noncomputable def ob182 (P : Params) : Obj := ⟨(.type "tuple"), none, (.seq #[(.str "code" 417), (.str "found" 418), (.str "place" 419)] 0), #[]⟩
noncomputable def ob183 (P : Params) : Obj := ⟨(.type "tuple"), none, (.seq #[] 0), #[]⟩
noncomputable def ob184 (P : Params) : Obj := ⟨.none, none, (.func ⟨"jump_places", "jump_places", stP (stAt 30), .stmts (stB (stAt 30)), stS (stAt 30), 0, [], .none, .none, .none, .none, none, .none, .none, 0⟩), #[]⟩
noncomputable def ob185 (P : Params) : Obj := ⟨(.type "code"), none, (.fields #[(.str "jump_places" 414), (.str "jump_places" 415), (.str "/claim/cut.py" 416), (.int 74 0), (.int 1 0), (.int 0 0), (.int 0 0), (.int 3 0), (.ref 180), (.bool true), (.int 181 0), (.ref 181), .none, (.ref 182), (.ref 183), (.ref 184), (.int 420 0), (.int 74 0), (.str "/claim/cut.py" 421)]), #[]⟩
noncomputable def ob186 (P : Params) : Obj := ⟨(.type "function"), none, (.func ⟨"jump_places", "jump_places", stP (stAt 30), .stmts (stB (stAt 30)), stS (stAt 30), 3, [], .none, .none, .none, (.str "gasledger.code" 410), none, (.ref 185), .none, 0⟩), #[]⟩
noncomputable def ob187 (P : Params) : Obj := ⟨(.type "tuple"), none, (.seq #[] 0), #[]⟩
noncomputable def ob188 (P : Params) : Obj := ⟨.none, none, (.fields #[]), #[]⟩
noncomputable def ob189 (P : Params) : Obj := ⟨(.type "tuple"), none, (.seq #[(.str "size" 436)] 0), #[]⟩
noncomputable def ob190 (P : Params) : Obj := ⟨(.type "tuple"), none, (.seq #[] 0), #[]⟩
noncomputable def ob191 (P : Params) : Obj := ⟨.none, none, (.func ⟨"words_of", "words_of", stP (stAt 36), .stmts (stB (stAt 36)), stS (stAt 36), 0, [], .none, .none, .none, .none, none, .none, .none, 0⟩), #[]⟩
noncomputable def ob192 (P : Params) : Obj := ⟨(.type "code"), none, (.fields #[(.str "words_of" 433), (.str "words_of" 434), (.str "/claim/cut.py" 435), (.int 86 0), (.int 1 0), (.int 0 0), (.int 0 0), (.int 3 0), (.ref 187), (.bool true), (.int 181 0), (.ref 188), .none, (.ref 189), (.ref 190), (.ref 191), (.int 437 0), (.int 86 0), (.str "/claim/cut.py" 438)]), #[]⟩
noncomputable def ob193 (P : Params) : Obj := ⟨(.type "function"), none, (.func ⟨"words_of", "words_of", stP (stAt 36), .stmts (stB (stAt 36)), stS (stAt 36), 3, [], .none, .none, .none, (.str "gasledger.gas" 423), none, (.ref 192), .none, 0⟩), #[]⟩
noncomputable def ob194 (P : Params) : Obj := ⟨(.type "tuple"), none, (.seq #[] 0), #[]⟩
noncomputable def ob195 (P : Params) : Obj := ⟨.none, none, (.fields #[]), #[]⟩
noncomputable def ob196 (P : Params) : Obj := ⟨(.type "tuple"), none, (.seq #[(.str "words" 443)] 0), #[]⟩
noncomputable def ob197 (P : Params) : Obj := ⟨(.type "tuple"), none, (.seq #[] 0), #[]⟩
noncomputable def ob198 (P : Params) : Obj := ⟨.none, none, (.func ⟨"memory_cost", "memory_cost", stP (stAt 37), .stmts (stB (stAt 37)), stS (stAt 37), 0, [], .none, .none, .none, .none, none, .none, .none, 0⟩), #[]⟩
noncomputable def ob199 (P : Params) : Obj := ⟨(.type "code"), none, (.fields #[(.str "memory_cost" 440), (.str "memory_cost" 441), (.str "/claim/cut.py" 442), (.int 88 0), (.int 1 0), (.int 0 0), (.int 0 0), (.int 3 0), (.ref 194), (.bool true), (.int 181 0), (.ref 195), .none, (.ref 196), (.ref 197), (.ref 198), (.int 444 0), (.int 88 0), (.str "/claim/cut.py" 445)]), #[]⟩
noncomputable def ob200 (P : Params) : Obj := ⟨(.type "function"), none, (.func ⟨"memory_cost", "memory_cost", stP (stAt 37), .stmts (stB (stAt 37)), stS (stAt 37), 3, [], .none, .none, .none, (.str "gasledger.gas" 423), none, (.ref 199), .none, 0⟩), #[]⟩
noncomputable def ob201 (P : Params) : Obj := ⟨(.type "tuple"), none, (.seq #[] 0), #[]⟩
noncomputable def ob202 (P : Params) : Obj := ⟨.none, none, (.fields #[]), #[]⟩
noncomputable def ob203 (P : Params) : Obj := ⟨(.type "tuple"), none, (.seq #[(.str "power" 450)] 0), #[]⟩
noncomputable def ob204 (P : Params) : Obj := ⟨(.type "tuple"), none, (.seq #[] 0), #[]⟩
noncomputable def ob205 (P : Params) : Obj := ⟨.none, none, (.func ⟨"exp_cost", "exp_cost", stP (stAt 38), .stmts (stB (stAt 38)), stS (stAt 38), 0, [], .none, .none, .none, .none, none, .none, .none, 0⟩), #[]⟩
noncomputable def ob206 (P : Params) : Obj := ⟨(.type "code"), none, (.fields #[(.str "exp_cost" 447), (.str "exp_cost" 448), (.str "/claim/cut.py" 449), (.int 90 0), (.int 1 0), (.int 0 0), (.int 0 0), (.int 3 0), (.ref 201), (.bool true), (.int 181 0), (.ref 202), .none, (.ref 203), (.ref 204), (.ref 205), (.int 451 0), (.int 90 0), (.str "/claim/cut.py" 452)]), #[]⟩
noncomputable def ob207 (P : Params) : Obj := ⟨(.type "function"), none, (.func ⟨"exp_cost", "exp_cost", stP (stAt 38), .stmts (stB (stAt 38)), stS (stAt 38), 3, [], .none, .none, .none, (.str "gasledger.gas" 423), none, (.ref 206), .none, 0⟩), #[]⟩
noncomputable def ob208 (P : Params) : Obj := ⟨(.type "tuple"), none, (.seq #[] 0), #[]⟩
noncomputable def ob209 (P : Params) : Obj := ⟨.none, none, (.fields #[]), #[]⟩
noncomputable def ob210 (P : Params) : Obj := ⟨(.type "tuple"), none, (.seq #[(.str "size" 457)] 0), #[]⟩
noncomputable def ob211 (P : Params) : Obj := ⟨(.type "tuple"), none, (.seq #[] 0), #[]⟩
noncomputable def ob212 (P : Params) : Obj := ⟨.none, none, (.func ⟨"hash_cost", "hash_cost", stP (stAt 39), .stmts (stB (stAt 39)), stS (stAt 39), 0, [], .none, .none, .none, .none, none, .none, .none, 0⟩), #[]⟩
noncomputable def ob213 (P : Params) : Obj := ⟨(.type "code"), none, (.fields #[(.str "hash_cost" 454), (.str "hash_cost" 455), (.str "/claim/cut.py" 456), (.int 92 0), (.int 1 0), (.int 0 0), (.int 0 0), (.int 3 0), (.ref 208), (.bool true), (.int 181 0), (.ref 209), .none, (.ref 210), (.ref 211), (.ref 212), (.int 458 0), (.int 92 0), (.str "/claim/cut.py" 459)]), #[]⟩
noncomputable def ob214 (P : Params) : Obj := ⟨(.type "function"), none, (.func ⟨"hash_cost", "hash_cost", stP (stAt 39), .stmts (stB (stAt 39)), stS (stAt 39), 3, [], .none, .none, .none, (.str "gasledger.gas" 423), none, (.ref 213), .none, 0⟩), #[]⟩
noncomputable def ob215 (P : Params) : Obj := ⟨(.type "tuple"), none, (.seq #[] 0), #[]⟩
noncomputable def ob216 (P : Params) : Obj := ⟨(.type "builtin_function_or_method"), none, (.fields #[(.builtin "type.__prepare__"), (.type "type")]), #[]⟩
noncomputable def ob217 (P : Params) : Obj := ⟨(.type "dict"), none, (.dict #[en P "__module__" 474 (.str "gasledger.memory" 461), en P "__qualname__" 476 (.str "Memory" 475), en P "__firstlineno__" 478 (.int 96 477), en P "__init__" 485 (.ref 228), en P "touched" 494 (.ref 235), en P "grown" 504 (.ref 242), en P "read" 513 (.ref 249), en P "write" 522 (.ref 256), en P "read_word" 530 (.ref 263), en P "write_word" 539 (.ref 270), en P "put_octet" 548 (.ref 277), en P "__static_attributes__" 551 (.ref 278)] 12), #[]⟩
noncomputable def ob218 (P : Params) : Obj := ⟨(.type "tuple"), none, (.seq #[] 0), #[]⟩
noncomputable def ob219 (P : Params) : Obj := ⟨.none, none, (.fields #[(.int 98 0), (.int 4 0), (.ref 227), (.int 102 0), (.int 4 0), (.ref 234), (.int 107 0), (.int 4 0), (.ref 241), (.int 115 0), (.int 4 0), (.ref 248), (.int 121 0), (.int 4 0), (.ref 255), (.int 126 0), (.int 4 0), (.ref 262), (.int 129 0), (.int 4 0), (.ref 269), (.int 132 0), (.int 4 0), (.ref 276)]), #[]⟩
noncomputable def ob220 (P : Params) : Obj := ⟨(.type "code"), none, (.fields #[(.str "Memory" 469), (.str "Memory" 470), (.str "/claim/cut.py" 471), (.int 96 0), (.int 0 0), (.int 0 0), (.int 0 0), (.int 0 0), (.ref 218), (.bool false), (.int 181 0), (.ref 219), .none, .none, .none, .none, (.int 472 0), (.int 96 0), (.str "/claim/cut.py" 473)]), #[]⟩
noncomputable def ob221 (P : Params) : Obj := ⟨(.type "frame"), none, .plain, #[some (.ref 220), some (.ref 3), some (.ref 217), none, some (.str "gasledger.memory" 461), none, some (.ref 0)]⟩
noncomputable def ob222 (P : Params) : Obj := ⟨(.type "tuple"), none, (.seq #[] 0), #[]⟩
noncomputable def ob223 (P : Params) : Obj := ⟨.none, none, (.fields #[]), #[]⟩
noncomputable def ob224 (P : Params) : Obj := ⟨(.type "tuple"), none, (.seq #[(.str "self" 482)] 0), #[]⟩
noncomputable def ob225 (P : Params) : Obj := ⟨(.type "tuple"), none, (.seq #[] 0), #[]⟩
noncomputable def ob226 (P : Params) : Obj := ⟨.none, none, (.func ⟨"__init__", "Memory.__init__", stP (stIn 42 0), .stmts (stB (stIn 42 0)), stS (stIn 42 0), 0, [], .none, .none, .none, .none, none, .none, .none, 0⟩), #[]⟩
noncomputable def ob227 (P : Params) : Obj := ⟨(.type "code"), none, (.fields #[(.str "__init__" 479), (.str "Memory.__init__" 480), (.str "/claim/cut.py" 481), (.int 98 0), (.int 1 0), (.int 0 0), (.int 0 0), (.int 3 0), (.ref 222), (.bool true), (.int 181 0), (.ref 223), .none, (.ref 224), (.ref 225), (.ref 226), (.int 483 0), (.int 98 0), (.str "/claim/cut.py" 484)]), #[]⟩
noncomputable def ob228 (P : Params) : Obj := ⟨(.type "function"), none, (.func ⟨"__init__", "Memory.__init__", stP (stIn 42 0), .stmts (stB (stIn 42 0)), stS (stIn 42 0), 3, [], .none, .none, .none, (.str "gasledger.memory" 461), none, (.ref 227), .none, 0⟩), #[]⟩
noncomputable def ob229 (P : Params) : Obj := ⟨(.type "tuple"), none, (.seq #[] 0), #[]⟩
noncomputable def ob230 (P : Params) : Obj := ⟨.none, none, (.fields #[]), #[]⟩
noncomputable def ob231 (P : Params) : Obj := ⟨(.type "tuple"), none, (.seq #[(.str "self" 489), (.str "place" 490), (.str "size" 491)] 0), #[]⟩
noncomputable def ob232 (P : Params) : Obj := ⟨(.type "tuple"), none, (.seq #[] 0), #[]⟩
noncomputable def ob233 (P : Params) : Obj := ⟨.none, none, (.func ⟨"touched", "Memory.touched", stP (stIn 42 1), .stmts (stB (stIn 42 1)), stS (stIn 42 1), 0, [], .none, .none, .none, .none, none, .none, .none, 0⟩), #[]⟩
noncomputable def ob234 (P : Params) : Obj := ⟨(.type "code"), none, (.fields #[(.str "touched" 486), (.str "Memory.touched" 487), (.str "/claim/cut.py" 488), (.int 102 0), (.int 3 0), (.int 0 0), (.int 0 0), (.int 3 0), (.ref 229), (.bool true), (.int 181 0), (.ref 230), .none, (.ref 231), (.ref 232), (.ref 233), (.int 492 0), (.int 102 0), (.str "/claim/cut.py" 493)]), #[]⟩
noncomputable def ob235 (P : Params) : Obj := ⟨(.type "function"), none, (.func ⟨"touched", "Memory.touched", stP (stIn 42 1), .stmts (stB (stIn 42 1)), stS (stIn 42 1), 3, [], .none, .none, .none, (.str "gasledger.memory" 461), none, (.ref 234), .none, 0⟩), #[]⟩
noncomputable def ob236 (P : Params) : Obj := ⟨(.type "tuple"), none, (.seq #[] 0), #[]⟩
noncomputable def ob237 (P : Params) : Obj := ⟨.none, none, (.fields #[]), #[]⟩
noncomputable def ob238 (P : Params) : Obj := ⟨(.type "tuple"), none, (.seq #[(.str "self" 498), (.str "place" 499), (.str "size" 500), (.str "words" 501)] 0), #[]⟩
noncomputable def ob239 (P : Params) : Obj := ⟨(.type "tuple"), none, (.seq #[] 0), #[]⟩
noncomputable def ob240 (P : Params) : Obj := ⟨.none, none, (.func ⟨"grown", "Memory.grown", stP (stIn 42 2), .stmts (stB (stIn 42 2)), stS (stIn 42 2), 0, [], .none, .none, .none, .none, none, .none, .none, 0⟩), #[]⟩
noncomputable def ob241 (P : Params) : Obj := ⟨(.type "code"), none, (.fields #[(.str "grown" 495), (.str "Memory.grown" 496), (.str "/claim/cut.py" 497), (.int 107 0), (.int 3 0), (.int 0 0), (.int 0 0), (.int 3 0), (.ref 236), (.bool true), (.int 181 0), (.ref 237), .none, (.ref 238), (.ref 239), (.ref 240), (.int 502 0), (.int 107 0), (.str "/claim/cut.py" 503)]), #[]⟩
noncomputable def ob242 (P : Params) : Obj := ⟨(.type "function"), none, (.func ⟨"grown", "Memory.grown", stP (stIn 42 2), .stmts (stB (stIn 42 2)), stS (stIn 42 2), 3, [], .none, .none, .none, (.str "gasledger.memory" 461), none, (.ref 241), .none, 0⟩), #[]⟩
noncomputable def ob243 (P : Params) : Obj := ⟨(.type "tuple"), none, (.seq #[] 0), #[]⟩
noncomputable def ob244 (P : Params) : Obj := ⟨.none, none, (.fields #[]), #[]⟩
noncomputable def ob245 (P : Params) : Obj := ⟨(.type "tuple"), none, (.seq #[(.str "self" 508), (.str "place" 509), (.str "size" 510)] 0), #[]⟩
noncomputable def ob246 (P : Params) : Obj := ⟨(.type "tuple"), none, (.seq #[] 0), #[]⟩
noncomputable def ob247 (P : Params) : Obj := ⟨.none, none, (.func ⟨"read", "Memory.read", stP (stIn 42 3), .stmts (stB (stIn 42 3)), stS (stIn 42 3), 0, [], .none, .none, .none, .none, none, .none, .none, 0⟩), #[]⟩
noncomputable def ob248 (P : Params) : Obj := ⟨(.type "code"), none, (.fields #[(.str "read" 505), (.str "Memory.read" 506), (.str "/claim/cut.py" 507), (.int 115 0), (.int 3 0), (.int 0 0), (.int 0 0), (.int 3 0), (.ref 243), (.bool true), (.int 181 0), (.ref 244), .none, (.ref 245), (.ref 246), (.ref 247), (.int 511 0), (.int 115 0), (.str "/claim/cut.py" 512)]), #[]⟩
noncomputable def ob249 (P : Params) : Obj := ⟨(.type "function"), none, (.func ⟨"read", "Memory.read", stP (stIn 42 3), .stmts (stB (stIn 42 3)), stS (stIn 42 3), 3, [], .none, .none, .none, (.str "gasledger.memory" 461), none, (.ref 248), .none, 0⟩), #[]⟩
noncomputable def ob250 (P : Params) : Obj := ⟨(.type "tuple"), none, (.seq #[] 0), #[]⟩
noncomputable def ob251 (P : Params) : Obj := ⟨.none, none, (.fields #[]), #[]⟩
noncomputable def ob252 (P : Params) : Obj := ⟨(.type "tuple"), none, (.seq #[(.str "self" 517), (.str "place" 518), (.str "octets" 519)] 0), #[]⟩
noncomputable def ob253 (P : Params) : Obj := ⟨(.type "tuple"), none, (.seq #[] 0), #[]⟩
noncomputable def ob254 (P : Params) : Obj := ⟨.none, none, (.func ⟨"write", "Memory.write", stP (stIn 42 4), .stmts (stB (stIn 42 4)), stS (stIn 42 4), 0, [], .none, .none, .none, .none, none, .none, .none, 0⟩), #[]⟩
noncomputable def ob255 (P : Params) : Obj := ⟨(.type "code"), none, (.fields #[(.str "write" 514), (.str "Memory.write" 515), (.str "/claim/cut.py" 516), (.int 121 0), (.int 3 0), (.int 0 0), (.int 0 0), (.int 3 0), (.ref 250), (.bool true), (.int 181 0), (.ref 251), .none, (.ref 252), (.ref 253), (.ref 254), (.int 520 0), (.int 121 0), (.str "/claim/cut.py" 521)]), #[]⟩
noncomputable def ob256 (P : Params) : Obj := ⟨(.type "function"), none, (.func ⟨"write", "Memory.write", stP (stIn 42 4), .stmts (stB (stIn 42 4)), stS (stIn 42 4), 3, [], .none, .none, .none, (.str "gasledger.memory" 461), none, (.ref 255), .none, 0⟩), #[]⟩
noncomputable def ob257 (P : Params) : Obj := ⟨(.type "tuple"), none, (.seq #[] 0), #[]⟩
noncomputable def ob258 (P : Params) : Obj := ⟨.none, none, (.fields #[]), #[]⟩
noncomputable def ob259 (P : Params) : Obj := ⟨(.type "tuple"), none, (.seq #[(.str "self" 526), (.str "place" 527)] 0), #[]⟩
noncomputable def ob260 (P : Params) : Obj := ⟨(.type "tuple"), none, (.seq #[] 0), #[]⟩
noncomputable def ob261 (P : Params) : Obj := ⟨.none, none, (.func ⟨"read_word", "Memory.read_word", stP (stIn 42 5), .stmts (stB (stIn 42 5)), stS (stIn 42 5), 0, [], .none, .none, .none, .none, none, .none, .none, 0⟩), #[]⟩
noncomputable def ob262 (P : Params) : Obj := ⟨(.type "code"), none, (.fields #[(.str "read_word" 523), (.str "Memory.read_word" 524), (.str "/claim/cut.py" 525), (.int 126 0), (.int 2 0), (.int 0 0), (.int 0 0), (.int 3 0), (.ref 257), (.bool true), (.int 181 0), (.ref 258), .none, (.ref 259), (.ref 260), (.ref 261), (.int 528 0), (.int 126 0), (.str "/claim/cut.py" 529)]), #[]⟩
noncomputable def ob263 (P : Params) : Obj := ⟨(.type "function"), none, (.func ⟨"read_word", "Memory.read_word", stP (stIn 42 5), .stmts (stB (stIn 42 5)), stS (stIn 42 5), 3, [], .none, .none, .none, (.str "gasledger.memory" 461), none, (.ref 262), .none, 0⟩), #[]⟩
noncomputable def ob264 (P : Params) : Obj := ⟨(.type "tuple"), none, (.seq #[] 0), #[]⟩
noncomputable def ob265 (P : Params) : Obj := ⟨.none, none, (.fields #[]), #[]⟩
noncomputable def ob266 (P : Params) : Obj := ⟨(.type "tuple"), none, (.seq #[(.str "self" 534), (.str "place" 535), (.str "word" 536)] 0), #[]⟩
noncomputable def ob267 (P : Params) : Obj := ⟨(.type "tuple"), none, (.seq #[] 0), #[]⟩
noncomputable def ob268 (P : Params) : Obj := ⟨.none, none, (.func ⟨"write_word", "Memory.write_word", stP (stIn 42 6), .stmts (stB (stIn 42 6)), stS (stIn 42 6), 0, [], .none, .none, .none, .none, none, .none, .none, 0⟩), #[]⟩
noncomputable def ob269 (P : Params) : Obj := ⟨(.type "code"), none, (.fields #[(.str "write_word" 531), (.str "Memory.write_word" 532), (.str "/claim/cut.py" 533), (.int 129 0), (.int 3 0), (.int 0 0), (.int 0 0), (.int 3 0), (.ref 264), (.bool true), (.int 181 0), (.ref 265), .none, (.ref 266), (.ref 267), (.ref 268), (.int 537 0), (.int 129 0), (.str "/claim/cut.py" 538)]), #[]⟩
noncomputable def ob270 (P : Params) : Obj := ⟨(.type "function"), none, (.func ⟨"write_word", "Memory.write_word", stP (stIn 42 6), .stmts (stB (stIn 42 6)), stS (stIn 42 6), 3, [], .none, .none, .none, (.str "gasledger.memory" 461), none, (.ref 269), .none, 0⟩), #[]⟩
noncomputable def ob271 (P : Params) : Obj := ⟨(.type "tuple"), none, (.seq #[] 0), #[]⟩
noncomputable def ob272 (P : Params) : Obj := ⟨.none, none, (.fields #[]), #[]⟩
noncomputable def ob273 (P : Params) : Obj := ⟨(.type "tuple"), none, (.seq #[(.str "self" 543), (.str "place" 544), (.str "octet" 545)] 0), #[]⟩
noncomputable def ob274 (P : Params) : Obj := ⟨(.type "tuple"), none, (.seq #[] 0), #[]⟩
noncomputable def ob275 (P : Params) : Obj := ⟨.none, none, (.func ⟨"put_octet", "Memory.put_octet", stP (stIn 42 7), .stmts (stB (stIn 42 7)), stS (stIn 42 7), 0, [], .none, .none, .none, .none, none, .none, .none, 0⟩), #[]⟩
noncomputable def ob276 (P : Params) : Obj := ⟨(.type "code"), none, (.fields #[(.str "put_octet" 540), (.str "Memory.put_octet" 541), (.str "/claim/cut.py" 542), (.int 132 0), (.int 3 0), (.int 0 0), (.int 0 0), (.int 3 0), (.ref 271), (.bool true), (.int 181 0), (.ref 272), .none, (.ref 273), (.ref 274), (.ref 275), (.int 546 0), (.int 132 0), (.str "/claim/cut.py" 547)]), #[]⟩
noncomputable def ob277 (P : Params) : Obj := ⟨(.type "function"), none, (.func ⟨"put_octet", "Memory.put_octet", stP (stIn 42 7), .stmts (stB (stIn 42 7)), stS (stIn 42 7), 3, [], .none, .none, .none, (.str "gasledger.memory" 461), none, (.ref 276), .none, 0⟩), #[]⟩
noncomputable def ob278 (P : Params) : Obj := ⟨(.type "tuple"), none, (.seq #[(.str "octets" 549), (.str "words" 550)] 0), #[]⟩
noncomputable def ob279 (P : Params) : Obj := ⟨(.type "dict"), none, (.dict #[en P "__module__" 474 (.str "gasledger.memory" 461), en P "__firstlineno__" 478 (.int 96 477), en P "__init__" 485 (.ref 228), en P "touched" 494 (.ref 235), en P "grown" 504 (.ref 242), en P "read" 513 (.ref 249), en P "write" 522 (.ref 256), en P "read_word" 530 (.ref 263), en P "write_word" 539 (.ref 270), en P "put_octet" 548 (.ref 277), en P "__static_attributes__" 551 (.ref 278), en P "__dict__" 553 (.ref 281), en P "__weakref__" 555 (.ref 282), en P "__doc__" 556 .none] 4), #[]⟩
noncomputable def ob280 (P : Params) : Obj := ⟨(.type "type"), none, (.cls ⟨"Memory", [(.type "object")], [(.ref 280), (.type "object")], 279, "Memory", true, [], [], false, none, false⟩), #[none, none, some (.str "Memory" 467), some (.str "Memory" 475), some (.builtin "object.__new__"), some (.bool true)]⟩
noncomputable def ob281 (P : Params) : Obj := ⟨(.type "getset_descriptor"), none, (.fields #[(.str "__dict__" 552), (.ref 280), (.builtin "function.__dict__"), (.builtin "function.__dict__#set")]), #[]⟩
noncomputable def ob282 (P : Params) : Obj := ⟨(.type "getset_descriptor"), none, (.fields #[(.str "__weakref__" 554), (.ref 280), (.builtin "ExceptionGroup.__weakref__"), .none]), #[]⟩
noncomputable def ob283 (P : Params) : Obj := ⟨(.type "super"), none, (.fields #[(.ref 280), (.ref 280), (.ref 280)]), #[]⟩
noncomputable def ob284 (P : Params) : Obj := ⟨(.type "builtin_function_or_method"), none, (.fields #[(.builtin "object.__init_subclass__"), (.ref 280)]), #[]⟩
noncomputable def ob285 (P : Params) : Obj := ⟨(.type "tuple"), none, (.seq #[] 0), #[]⟩
noncomputable def ob286 (P : Params) : Obj := ⟨(.type "builtin_function_or_method"), none, (.fields #[(.builtin "type.__prepare__"), (.type "type")]), #[]⟩
noncomputable def ob287 (P : Params) : Obj := ⟨(.type "dict"), none, (.dict #[en P "__module__" 570 (.str "gasledger.frame" 559), en P "__qualname__" 572 (.str "Message" 571), en P "__firstlineno__" 574 (.int 136 573), en P "__init__" 592 (.ref 298), en P "__static_attributes__" 604 (.ref 299)] 5), #[]⟩
noncomputable def ob288 (P : Params) : Obj := ⟨(.type "tuple"), none, (.seq #[] 0), #[]⟩
noncomputable def ob289 (P : Params) : Obj := ⟨.none, none, (.fields #[(.int 138 0), (.int 4 0), (.ref 297)]), #[]⟩
noncomputable def ob290 (P : Params) : Obj := ⟨(.type "code"), none, (.fields #[(.str "Message" 565), (.str "Message" 566), (.str "/claim/cut.py" 567), (.int 136 0), (.int 0 0), (.int 0 0), (.int 0 0), (.int 0 0), (.ref 288), (.bool false), (.int 181 0), (.ref 289), .none, .none, .none, .none, (.int 568 0), (.int 136 0), (.str "/claim/cut.py" 569)]), #[]⟩
noncomputable def ob291 (P : Params) : Obj := ⟨(.type "frame"), none, .plain, #[some (.ref 290), some (.ref 3), some (.ref 287), none, some (.str "gasledger.frame" 559), none, some (.ref 0)]⟩
noncomputable def ob292 (P : Params) : Obj := ⟨(.type "tuple"), none, (.seq #[] 0), #[]⟩
noncomputable def ob293 (P : Params) : Obj := ⟨.none, none, (.fields #[]), #[]⟩
noncomputable def ob294 (P : Params) : Obj := ⟨(.type "tuple"), none, (.seq #[(.str "self" 578), (.str "kind" 579), (.str "caller" 580), (.str "target" 581), (.str "code_address" 582), (.str "value" 583), (.str "told_value" 584), (.str "data" 585), (.str "gas" 586), (.str "is_static" 587), (.str "depth" 588), (.str "salt" 589)] 0), #[]⟩
noncomputable def ob295 (P : Params) : Obj := ⟨(.type "tuple"), none, (.seq #[] 0), #[]⟩
noncomputable def ob296 (P : Params) : Obj := ⟨.none, none, (.func ⟨"__init__", "Message.__init__", stP (stIn 45 0), .stmts (stB (stIn 45 0)), stS (stIn 45 0), 0, [], .none, .none, .none, .none, none, .none, .none, 0⟩), #[]⟩
noncomputable def ob297 (P : Params) : Obj := ⟨(.type "code"), none, (.fields #[(.str "__init__" 575), (.str "Message.__init__" 576), (.str "/claim/cut.py" 577), (.int 138 0), (.int 12 0), (.int 0 0), (.int 0 0), (.int 3 0), (.ref 292), (.bool true), (.int 181 0), (.ref 293), .none, (.ref 294), (.ref 295), (.ref 296), (.int 590 0), (.int 138 0), (.str "/claim/cut.py" 591)]), #[]⟩
noncomputable def ob298 (P : Params) : Obj := ⟨(.type "function"), none, (.func ⟨"__init__", "Message.__init__", stP (stIn 45 0), .stmts (stB (stIn 45 0)), stS (stIn 45 0), 3, [], .none, .none, .none, (.str "gasledger.frame" 559), none, (.ref 297), .none, 0⟩), #[]⟩
noncomputable def ob299 (P : Params) : Obj := ⟨(.type "tuple"), none, (.seq #[(.str "caller" 593), (.str "code_address" 594), (.str "data" 595), (.str "depth" 596), (.str "gas" 597), (.str "is_static" 598), (.str "kind" 599), (.str "salt" 600), (.str "target" 601), (.str "told_value" 602), (.str "value" 603)] 0), #[]⟩
noncomputable def ob300 (P : Params) : Obj := ⟨(.type "dict"), none, (.dict #[en P "__module__" 570 (.str "gasledger.frame" 559), en P "__firstlineno__" 574 (.int 136 573), en P "__init__" 592 (.ref 298), en P "__static_attributes__" 604 (.ref 299), en P "__dict__" 606 (.ref 302), en P "__weakref__" 608 (.ref 303), en P "__doc__" 609 .none] 4), #[]⟩
noncomputable def ob301 (P : Params) : Obj := ⟨(.type "type"), none, (.cls ⟨"Message", [(.type "object")], [(.ref 301), (.type "object")], 300, "Message", true, [], [], false, none, false⟩), #[none, none, some (.str "Message" 563), some (.str "Message" 571), some (.builtin "object.__new__"), some (.bool true)]⟩
noncomputable def ob302 (P : Params) : Obj := ⟨(.type "getset_descriptor"), none, (.fields #[(.str "__dict__" 605), (.ref 301), (.builtin "function.__dict__"), (.builtin "function.__dict__#set")]), #[]⟩
noncomputable def ob303 (P : Params) : Obj := ⟨(.type "getset_descriptor"), none, (.fields #[(.str "__weakref__" 607), (.ref 301), (.builtin "ExceptionGroup.__weakref__"), .none]), #[]⟩
noncomputable def ob304 (P : Params) : Obj := ⟨(.type "super"), none, (.fields #[(.ref 301), (.ref 301), (.ref 301)]), #[]⟩
noncomputable def ob305 (P : Params) : Obj := ⟨(.type "builtin_function_or_method"), none, (.fields #[(.builtin "object.__init_subclass__"), (.ref 301)]), #[]⟩
noncomputable def ob306 (P : Params) : Obj := ⟨(.type "tuple"), none, (.seq #[] 0), #[]⟩
noncomputable def ob307 (P : Params) : Obj := ⟨(.type "builtin_function_or_method"), none, (.fields #[(.builtin "type.__prepare__"), (.type "type")]), #[]⟩
noncomputable def ob308 (P : Params) : Obj := ⟨(.type "dict"), none, (.dict #[en P "__module__" 619 (.str "gasledger.frame" 559), en P "__qualname__" 621 (.str "Frame" 620), en P "__firstlineno__" 623 (.int 150 622), en P "__init__" 632 (.ref 319), en P "pay" 640 (.ref 326), en P "push" 648 (.ref 333), en P "pop" 655 (.ref 340), en P "grow" 665 (.ref 347), en P "end" 674 (.ref 354), en P "__static_attributes__" 686 (.ref 355)] 10), #[]⟩
noncomputable def ob309 (P : Params) : Obj := ⟨(.type "tuple"), none, (.seq #[] 0), #[]⟩
noncomputable def ob310 (P : Params) : Obj := ⟨.none, none, (.fields #[(.int 152 0), (.int 4 0), (.ref 318), (.int 165 0), (.int 4 0), (.ref 325), (.int 170 0), (.int 4 0), (.ref 332), (.int 175 0), (.int 4 0), (.ref 339), (.int 180 0), (.int 4 0), (.ref 346), (.int 185 0), (.int 4 0), (.ref 353)]), #[]⟩
noncomputable def ob311 (P : Params) : Obj := ⟨(.type "code"), none, (.fields #[(.str "Frame" 614), (.str "Frame" 615), (.str "/claim/cut.py" 616), (.int 150 0), (.int 0 0), (.int 0 0), (.int 0 0), (.int 0 0), (.ref 309), (.bool false), (.int 181 0), (.ref 310), .none, .none, .none, .none, (.int 617 0), (.int 150 0), (.str "/claim/cut.py" 618)]), #[]⟩
noncomputable def ob312 (P : Params) : Obj := ⟨(.type "frame"), none, .plain, #[some (.ref 311), some (.ref 3), some (.ref 308), none, some (.str "gasledger.frame" 559), none, some (.ref 0)]⟩
noncomputable def ob313 (P : Params) : Obj := ⟨(.type "tuple"), none, (.seq #[] 0), #[]⟩
noncomputable def ob314 (P : Params) : Obj := ⟨.none, none, (.fields #[]), #[]⟩
noncomputable def ob315 (P : Params) : Obj := ⟨(.type "tuple"), none, (.seq #[(.str "self" 627), (.str "message" 628), (.str "code" 629)] 0), #[]⟩
noncomputable def ob316 (P : Params) : Obj := ⟨(.type "tuple"), none, (.seq #[] 0), #[]⟩
noncomputable def ob317 (P : Params) : Obj := ⟨.none, none, (.func ⟨"__init__", "Frame.__init__", stP (stIn 46 0), .stmts (stB (stIn 46 0)), stS (stIn 46 0), 0, [], .none, .none, .none, .none, none, .none, .none, 0⟩), #[]⟩
noncomputable def ob318 (P : Params) : Obj := ⟨(.type "code"), none, (.fields #[(.str "__init__" 624), (.str "Frame.__init__" 625), (.str "/claim/cut.py" 626), (.int 152 0), (.int 3 0), (.int 0 0), (.int 0 0), (.int 3 0), (.ref 313), (.bool true), (.int 181 0), (.ref 314), .none, (.ref 315), (.ref 316), (.ref 317), (.int 630 0), (.int 152 0), (.str "/claim/cut.py" 631)]), #[]⟩
noncomputable def ob319 (P : Params) : Obj := ⟨(.type "function"), none, (.func ⟨"__init__", "Frame.__init__", stP (stIn 46 0), .stmts (stB (stIn 46 0)), stS (stIn 46 0), 3, [], .none, .none, .none, (.str "gasledger.frame" 559), none, (.ref 318), .none, 0⟩), #[]⟩
noncomputable def ob320 (P : Params) : Obj := ⟨(.type "tuple"), none, (.seq #[] 0), #[]⟩
noncomputable def ob321 (P : Params) : Obj := ⟨.none, none, (.fields #[]), #[]⟩
noncomputable def ob322 (P : Params) : Obj := ⟨(.type "tuple"), none, (.seq #[(.str "self" 636), (.str "amount" 637)] 0), #[]⟩
noncomputable def ob323 (P : Params) : Obj := ⟨(.type "tuple"), none, (.seq #[] 0), #[]⟩
noncomputable def ob324 (P : Params) : Obj := ⟨.none, none, (.func ⟨"pay", "Frame.pay", stP (stIn 46 1), .stmts (stB (stIn 46 1)), stS (stIn 46 1), 0, [], .none, .none, .none, .none, none, .none, .none, 0⟩), #[]⟩
noncomputable def ob325 (P : Params) : Obj := ⟨(.type "code"), none, (.fields #[(.str "pay" 633), (.str "Frame.pay" 634), (.str "/claim/cut.py" 635), (.int 165 0), (.int 2 0), (.int 0 0), (.int 0 0), (.int 3 0), (.ref 320), (.bool true), (.int 181 0), (.ref 321), .none, (.ref 322), (.ref 323), (.ref 324), (.int 638 0), (.int 165 0), (.str "/claim/cut.py" 639)]), #[]⟩
noncomputable def ob326 (P : Params) : Obj := ⟨(.type "function"), none, (.func ⟨"pay", "Frame.pay", stP (stIn 46 1), .stmts (stB (stIn 46 1)), stS (stIn 46 1), 3, [], .none, .none, .none, (.str "gasledger.frame" 559), none, (.ref 325), .none, 0⟩), #[]⟩
noncomputable def ob327 (P : Params) : Obj := ⟨(.type "tuple"), none, (.seq #[] 0), #[]⟩
noncomputable def ob328 (P : Params) : Obj := ⟨.none, none, (.fields #[]), #[]⟩
noncomputable def ob329 (P : Params) : Obj := ⟨(.type "tuple"), none, (.seq #[(.str "self" 644), (.str "word" 645)] 0), #[]⟩
noncomputable def ob330 (P : Params) : Obj := ⟨(.type "tuple"), none, (.seq #[] 0), #[]⟩
noncomputable def ob331 (P : Params) : Obj := ⟨.none, none, (.func ⟨"push", "Frame.push", stP (stIn 46 2), .stmts (stB (stIn 46 2)), stS (stIn 46 2), 0, [], .none, .none, .none, .none, none, .none, .none, 0⟩), #[]⟩
noncomputable def ob332 (P : Params) : Obj := ⟨(.type "code"), none, (.fields #[(.str "push" 641), (.str "Frame.push" 642), (.str "/claim/cut.py" 643), (.int 170 0), (.int 2 0), (.int 0 0), (.int 0 0), (.int 3 0), (.ref 327), (.bool true), (.int 181 0), (.ref 328), .none, (.ref 329), (.ref 330), (.ref 331), (.int 646 0), (.int 170 0), (.str "/claim/cut.py" 647)]), #[]⟩
noncomputable def ob333 (P : Params) : Obj := ⟨(.type "function"), none, (.func ⟨"push", "Frame.push", stP (stIn 46 2), .stmts (stB (stIn 46 2)), stS (stIn 46 2), 3, [], .none, .none, .none, (.str "gasledger.frame" 559), none, (.ref 332), .none, 0⟩), #[]⟩
noncomputable def ob334 (P : Params) : Obj := ⟨(.type "tuple"), none, (.seq #[] 0), #[]⟩
noncomputable def ob335 (P : Params) : Obj := ⟨.none, none, (.fields #[]), #[]⟩
noncomputable def ob336 (P : Params) : Obj := ⟨(.type "tuple"), none, (.seq #[(.str "self" 652)] 0), #[]⟩
noncomputable def ob337 (P : Params) : Obj := ⟨(.type "tuple"), none, (.seq #[] 0), #[]⟩
noncomputable def ob338 (P : Params) : Obj := ⟨.none, none, (.func ⟨"pop", "Frame.pop", stP (stIn 46 3), .stmts (stB (stIn 46 3)), stS (stIn 46 3), 0, [], .none, .none, .none, .none, none, .none, .none, 0⟩), #[]⟩
noncomputable def ob339 (P : Params) : Obj := ⟨(.type "code"), none, (.fields #[(.str "pop" 649), (.str "Frame.pop" 650), (.str "/claim/cut.py" 651), (.int 175 0), (.int 1 0), (.int 0 0), (.int 0 0), (.int 3 0), (.ref 334), (.bool true), (.int 181 0), (.ref 335), .none, (.ref 336), (.ref 337), (.ref 338), (.int 653 0), (.int 175 0), (.str "/claim/cut.py" 654)]), #[]⟩
noncomputable def ob340 (P : Params) : Obj := ⟨(.type "function"), none, (.func ⟨"pop", "Frame.pop", stP (stIn 46 3), .stmts (stB (stIn 46 3)), stS (stIn 46 3), 3, [], .none, .none, .none, (.str "gasledger.frame" 559), none, (.ref 339), .none, 0⟩), #[]⟩
noncomputable def ob341 (P : Params) : Obj := ⟨(.type "tuple"), none, (.seq #[] 0), #[]⟩
noncomputable def ob342 (P : Params) : Obj := ⟨.none, none, (.fields #[]), #[]⟩
noncomputable def ob343 (P : Params) : Obj := ⟨(.type "tuple"), none, (.seq #[(.str "self" 659), (.str "place" 660), (.str "size" 661), (.str "words" 662)] 0), #[]⟩
noncomputable def ob344 (P : Params) : Obj := ⟨(.type "tuple"), none, (.seq #[] 0), #[]⟩
noncomputable def ob345 (P : Params) : Obj := ⟨.none, none, (.func ⟨"grow", "Frame.grow", stP (stIn 46 4), .stmts (stB (stIn 46 4)), stS (stIn 46 4), 0, [], .none, .none, .none, .none, none, .none, .none, 0⟩), #[]⟩
noncomputable def ob346 (P : Params) : Obj := ⟨(.type "code"), none, (.fields #[(.str "grow" 656), (.str "Frame.grow" 657), (.str "/claim/cut.py" 658), (.int 180 0), (.int 3 0), (.int 0 0), (.int 0 0), (.int 3 0), (.ref 341), (.bool true), (.int 181 0), (.ref 342), .none, (.ref 343), (.ref 344), (.ref 345), (.int 663 0), (.int 180 0), (.str "/claim/cut.py" 664)]), #[]⟩
noncomputable def ob347 (P : Params) : Obj := ⟨(.type "function"), none, (.func ⟨"grow", "Frame.grow", stP (stIn 46 4), .stmts (stB (stIn 46 4)), stS (stIn 46 4), 3, [], .none, .none, .none, (.str "gasledger.frame" 559), none, (.ref 346), .none, 0⟩), #[]⟩
noncomputable def ob348 (P : Params) : Obj := ⟨(.type "tuple"), none, (.seq #[] 0), #[]⟩
noncomputable def ob349 (P : Params) : Obj := ⟨.none, none, (.fields #[]), #[]⟩
noncomputable def ob350 (P : Params) : Obj := ⟨(.type "tuple"), none, (.seq #[(.str "self" 669), (.str "word" 670), (.str "output" 671)] 0), #[]⟩
noncomputable def ob351 (P : Params) : Obj := ⟨(.type "tuple"), none, (.seq #[] 0), #[]⟩
noncomputable def ob352 (P : Params) : Obj := ⟨.none, none, (.func ⟨"end", "Frame.end", stP (stIn 46 5), .stmts (stB (stIn 46 5)), stS (stIn 46 5), 0, [], .none, .none, .none, .none, none, .none, .none, 0⟩), #[]⟩
noncomputable def ob353 (P : Params) : Obj := ⟨(.type "code"), none, (.fields #[(.str "end" 666), (.str "Frame.end" 667), (.str "/claim/cut.py" 668), (.int 185 0), (.int 3 0), (.int 0 0), (.int 0 0), (.int 3 0), (.ref 348), (.bool true), (.int 181 0), (.ref 349), .none, (.ref 350), (.ref 351), (.ref 352), (.int 672 0), (.int 185 0), (.str "/claim/cut.py" 673)]), #[]⟩
noncomputable def ob354 (P : Params) : Obj := ⟨(.type "function"), none, (.func ⟨"end", "Frame.end", stP (stIn 46 5), .stmts (stB (stIn 46 5)), stS (stIn 46 5), 3, [], .none, .none, .none, (.str "gasledger.frame" 559), none, (.ref 353), .none, 0⟩), #[]⟩
noncomputable def ob355 (P : Params) : Obj := ⟨(.type "tuple"), none, (.seq #[(.str "code" 675), (.str "gas" 676), (.str "is_done" 677), (.str "jumps" 678), (.str "memory" 679), (.str "message" 680), (.str "output" 681), (.str "pc" 682), (.str "returned" 683), (.str "stack" 684), (.str "word" 685)] 0), #[]⟩
noncomputable def ob356 (P : Params) : Obj := ⟨(.type "dict"), none, (.dict #[en P "__module__" 619 (.str "gasledger.frame" 559), en P "__firstlineno__" 623 (.int 150 622), en P "__init__" 632 (.ref 319), en P "pay" 640 (.ref 326), en P "push" 648 (.ref 333), en P "pop" 655 (.ref 340), en P "grow" 665 (.ref 347), en P "end" 674 (.ref 354), en P "__static_attributes__" 686 (.ref 355), en P "__dict__" 688 (.ref 358), en P "__weakref__" 690 (.ref 359), en P "__doc__" 691 .none] 4), #[]⟩
noncomputable def ob357 (P : Params) : Obj := ⟨(.type "type"), none, (.cls ⟨"Frame", [(.type "object")], [(.ref 357), (.type "object")], 356, "Frame", true, [], [], false, none, false⟩), #[none, none, some (.str "Frame" 612), some (.str "Frame" 620), some (.builtin "object.__new__"), some (.bool true)]⟩
noncomputable def ob358 (P : Params) : Obj := ⟨(.type "getset_descriptor"), none, (.fields #[(.str "__dict__" 687), (.ref 357), (.builtin "function.__dict__"), (.builtin "function.__dict__#set")]), #[]⟩
noncomputable def ob359 (P : Params) : Obj := ⟨(.type "getset_descriptor"), none, (.fields #[(.str "__weakref__" 689), (.ref 357), (.builtin "ExceptionGroup.__weakref__"), .none]), #[]⟩
noncomputable def ob360 (P : Params) : Obj := ⟨(.type "super"), none, (.fields #[(.ref 357), (.ref 357), (.ref 357)]), #[]⟩
noncomputable def ob361 (P : Params) : Obj := ⟨(.type "builtin_function_or_method"), none, (.fields #[(.builtin "object.__init_subclass__"), (.ref 357)]), #[]⟩
noncomputable def ob362 (P : Params) : Obj := ⟨(.type "tuple"), none, (.seq #[] 0), #[]⟩
noncomputable def ob363 (P : Params) : Obj := ⟨.none, none, (.fields #[]), #[]⟩
noncomputable def ob364 (P : Params) : Obj := ⟨(.type "tuple"), none, (.seq #[(.str "digest" 699), (.str "octets" 700)] 0), #[]⟩
noncomputable def ob365 (P : Params) : Obj := ⟨(.type "tuple"), none, (.seq #[] 0), #[]⟩
noncomputable def ob366 (P : Params) : Obj := ⟨.none, none, (.func ⟨"word_of", "word_of", stP (stAt 48), .stmts (stB (stAt 48)), stS (stAt 48), 0, [], .none, .none, .none, .none, none, .none, .none, 0⟩), #[]⟩
noncomputable def ob367 (P : Params) : Obj := ⟨(.type "code"), none, (.fields #[(.str "word_of" 696), (.str "word_of" 697), (.str "/claim/cut.py" 698), (.int 188 0), (.int 2 0), (.int 0 0), (.int 0 0), (.int 3 0), (.ref 362), (.bool true), (.int 181 0), (.ref 363), .none, (.ref 364), (.ref 365), (.ref 366), (.int 701 0), (.int 188 0), (.str "/claim/cut.py" 702)]), #[]⟩
noncomputable def ob368 (P : Params) : Obj := ⟨(.type "function"), none, (.func ⟨"word_of", "word_of", stP (stAt 48), .stmts (stB (stAt 48)), stS (stAt 48), 3, [], .none, .none, .none, (.str "gasledger.digests" 694), none, (.ref 367), .none, 0⟩), #[]⟩
noncomputable def ob369 (P : Params) : Obj := ⟨(.type "tuple"), none, (.seq #[] 0), #[]⟩
noncomputable def ob370 (P : Params) : Obj := ⟨.none, none, (.fields #[]), #[]⟩
noncomputable def ob371 (P : Params) : Obj := ⟨(.type "tuple"), none, (.seq #[(.str "machine" 709), (.str "frame" 710), (.str "one" 711), (.str "other" 712)] 0), #[]⟩
noncomputable def ob372 (P : Params) : Obj := ⟨(.type "tuple"), none, (.seq #[] 0), #[]⟩
noncomputable def ob373 (P : Params) : Obj := ⟨.none, none, (.func ⟨"op_add", "op_add", stP (stAt 50), .stmts (stB (stAt 50)), stS (stAt 50), 0, [], .none, .none, .none, .none, none, .none, .none, 0⟩), #[]⟩
noncomputable def ob374 (P : Params) : Obj := ⟨(.type "code"), none, (.fields #[(.str "op_add" 706), (.str "op_add" 707), (.str "/claim/cut.py" 708), (.int 191 0), (.int 2 0), (.int 0 0), (.int 0 0), (.int 3 0), (.ref 369), (.bool true), (.int 181 0), (.ref 370), .none, (.ref 371), (.ref 372), (.ref 373), (.int 713 0), (.int 191 0), (.str "/claim/cut.py" 714)]), #[]⟩
noncomputable def ob375 (P : Params) : Obj := ⟨(.type "function"), none, (.func ⟨"op_add", "op_add", stP (stAt 50), .stmts (stB (stAt 50)), stS (stAt 50), 3, [], .none, .none, .none, (.str "gasledger.opsarith" 704), none, (.ref 374), .none, 0⟩), #[]⟩
noncomputable def ob376 (P : Params) : Obj := ⟨(.type "tuple"), none, (.seq #[] 0), #[]⟩
noncomputable def ob377 (P : Params) : Obj := ⟨.none, none, (.fields #[]), #[]⟩
noncomputable def ob378 (P : Params) : Obj := ⟨(.type "tuple"), none, (.seq #[(.str "machine" 719), (.str "frame" 720), (.str "one" 721), (.str "other" 722)] 0), #[]⟩
noncomputable def ob379 (P : Params) : Obj := ⟨(.type "tuple"), none, (.seq #[] 0), #[]⟩
noncomputable def ob380 (P : Params) : Obj := ⟨.none, none, (.func ⟨"op_mul", "op_mul", stP (stAt 51), .stmts (stB (stAt 51)), stS (stAt 51), 0, [], .none, .none, .none, .none, none, .none, .none, 0⟩), #[]⟩
noncomputable def ob381 (P : Params) : Obj := ⟨(.type "code"), none, (.fields #[(.str "op_mul" 716), (.str "op_mul" 717), (.str "/claim/cut.py" 718), (.int 194 0), (.int 2 0), (.int 0 0), (.int 0 0), (.int 3 0), (.ref 376), (.bool true), (.int 181 0), (.ref 377), .none, (.ref 378), (.ref 379), (.ref 380), (.int 723 0), (.int 194 0), (.str "/claim/cut.py" 724)]), #[]⟩
noncomputable def ob382 (P : Params) : Obj := ⟨(.type "function"), none, (.func ⟨"op_mul", "op_mul", stP (stAt 51), .stmts (stB (stAt 51)), stS (stAt 51), 3, [], .none, .none, .none, (.str "gasledger.opsarith" 704), none, (.ref 381), .none, 0⟩), #[]⟩
noncomputable def ob383 (P : Params) : Obj := ⟨(.type "tuple"), none, (.seq #[] 0), #[]⟩
noncomputable def ob384 (P : Params) : Obj := ⟨.none, none, (.fields #[]), #[]⟩
noncomputable def ob385 (P : Params) : Obj := ⟨(.type "tuple"), none, (.seq #[(.str "machine" 729), (.str "frame" 730), (.str "one" 731), (.str "other" 732)] 0), #[]⟩
noncomputable def ob386 (P : Params) : Obj := ⟨(.type "tuple"), none, (.seq #[] 0), #[]⟩
noncomputable def ob387 (P : Params) : Obj := ⟨.none, none, (.func ⟨"op_sub", "op_sub", stP (stAt 52), .stmts (stB (stAt 52)), stS (stAt 52), 0, [], .none, .none, .none, .none, none, .none, .none, 0⟩), #[]⟩
noncomputable def ob388 (P : Params) : Obj := ⟨(.type "code"), none, (.fields #[(.str "op_sub" 726), (.str "op_sub" 727), (.str "/claim/cut.py" 728), (.int 197 0), (.int 2 0), (.int 0 0), (.int 0 0), (.int 3 0), (.ref 383), (.bool true), (.int 181 0), (.ref 384), .none, (.ref 385), (.ref 386), (.ref 387), (.int 733 0), (.int 197 0), (.str "/claim/cut.py" 734)]), #[]⟩
noncomputable def ob389 (P : Params) : Obj := ⟨(.type "function"), none, (.func ⟨"op_sub", "op_sub", stP (stAt 52), .stmts (stB (stAt 52)), stS (stAt 52), 3, [], .none, .none, .none, (.str "gasledger.opsarith" 704), none, (.ref 388), .none, 0⟩), #[]⟩
noncomputable def ob390 (P : Params) : Obj := ⟨(.type "tuple"), none, (.seq #[] 0), #[]⟩
noncomputable def ob391 (P : Params) : Obj := ⟨.none, none, (.fields #[]), #[]⟩
noncomputable def ob392 (P : Params) : Obj := ⟨(.type "tuple"), none, (.seq #[(.str "machine" 739), (.str "frame" 740), (.str "one" 741), (.str "other" 742)] 0), #[]⟩
noncomputable def ob393 (P : Params) : Obj := ⟨(.type "tuple"), none, (.seq #[] 0), #[]⟩
noncomputable def ob394 (P : Params) : Obj := ⟨.none, none, (.func ⟨"op_div", "op_div", stP (stAt 53), .stmts (stB (stAt 53)), stS (stAt 53), 0, [], .none, .none, .none, .none, none, .none, .none, 0⟩), #[]⟩
noncomputable def ob395 (P : Params) : Obj := ⟨(.type "code"), none, (.fields #[(.str "op_div" 736), (.str "op_div" 737), (.str "/claim/cut.py" 738), (.int 200 0), (.int 2 0), (.int 0 0), (.int 0 0), (.int 3 0), (.ref 390), (.bool true), (.int 181 0), (.ref 391), .none, (.ref 392), (.ref 393), (.ref 394), (.int 743 0), (.int 200 0), (.str "/claim/cut.py" 744)]), #[]⟩
noncomputable def ob396 (P : Params) : Obj := ⟨(.type "function"), none, (.func ⟨"op_div", "op_div", stP (stAt 53), .stmts (stB (stAt 53)), stS (stAt 53), 3, [], .none, .none, .none, (.str "gasledger.opsarith" 704), none, (.ref 395), .none, 0⟩), #[]⟩
noncomputable def ob397 (P : Params) : Obj := ⟨(.type "tuple"), none, (.seq #[] 0), #[]⟩
noncomputable def ob398 (P : Params) : Obj := ⟨.none, none, (.fields #[]), #[]⟩
noncomputable def ob399 (P : Params) : Obj := ⟨(.type "tuple"), none, (.seq #[(.str "machine" 749), (.str "frame" 750), (.str "one" 751), (.str "other" 752)] 0), #[]⟩
noncomputable def ob400 (P : Params) : Obj := ⟨(.type "tuple"), none, (.seq #[] 0), #[]⟩
noncomputable def ob401 (P : Params) : Obj := ⟨.none, none, (.func ⟨"op_sdiv", "op_sdiv", stP (stAt 54), .stmts (stB (stAt 54)), stS (stAt 54), 0, [], .none, .none, .none, .none, none, .none, .none, 0⟩), #[]⟩
noncomputable def ob402 (P : Params) : Obj := ⟨(.type "code"), none, (.fields #[(.str "op_sdiv" 746), (.str "op_sdiv" 747), (.str "/claim/cut.py" 748), (.int 203 0), (.int 2 0), (.int 0 0), (.int 0 0), (.int 3 0), (.ref 397), (.bool true), (.int 181 0), (.ref 398), .none, (.ref 399), (.ref 400), (.ref 401), (.int 753 0), (.int 203 0), (.str "/claim/cut.py" 754)]), #[]⟩
noncomputable def ob403 (P : Params) : Obj := ⟨(.type "function"), none, (.func ⟨"op_sdiv", "op_sdiv", stP (stAt 54), .stmts (stB (stAt 54)), stS (stAt 54), 3, [], .none, .none, .none, (.str "gasledger.opsarith" 704), none, (.ref 402), .none, 0⟩), #[]⟩
noncomputable def ob404 (P : Params) : Obj := ⟨(.type "tuple"), none, (.seq #[] 0), #[]⟩
noncomputable def ob405 (P : Params) : Obj := ⟨.none, none, (.fields #[]), #[]⟩
noncomputable def ob406 (P : Params) : Obj := ⟨(.type "tuple"), none, (.seq #[(.str "machine" 759), (.str "frame" 760), (.str "one" 761), (.str "other" 762)] 0), #[]⟩
noncomputable def ob407 (P : Params) : Obj := ⟨(.type "tuple"), none, (.seq #[] 0), #[]⟩
noncomputable def ob408 (P : Params) : Obj := ⟨.none, none, (.func ⟨"op_mod", "op_mod", stP (stAt 55), .stmts (stB (stAt 55)), stS (stAt 55), 0, [], .none, .none, .none, .none, none, .none, .none, 0⟩), #[]⟩
noncomputable def ob409 (P : Params) : Obj := ⟨(.type "code"), none, (.fields #[(.str "op_mod" 756), (.str "op_mod" 757), (.str "/claim/cut.py" 758), (.int 206 0), (.int 2 0), (.int 0 0), (.int 0 0), (.int 3 0), (.ref 404), (.bool true), (.int 181 0), (.ref 405), .none, (.ref 406), (.ref 407), (.ref 408), (.int 763 0), (.int 206 0), (.str "/claim/cut.py" 764)]), #[]⟩
noncomputable def ob410 (P : Params) : Obj := ⟨(.type "function"), none, (.func ⟨"op_mod", "op_mod", stP (stAt 55), .stmts (stB (stAt 55)), stS (stAt 55), 3, [], .none, .none, .none, (.str "gasledger.opsarith" 704), none, (.ref 409), .none, 0⟩), #[]⟩
noncomputable def ob411 (P : Params) : Obj := ⟨(.type "tuple"), none, (.seq #[] 0), #[]⟩
noncomputable def ob412 (P : Params) : Obj := ⟨.none, none, (.fields #[]), #[]⟩
noncomputable def ob413 (P : Params) : Obj := ⟨(.type "tuple"), none, (.seq #[(.str "machine" 769), (.str "frame" 770), (.str "one" 771), (.str "other" 772)] 0), #[]⟩
noncomputable def ob414 (P : Params) : Obj := ⟨(.type "tuple"), none, (.seq #[] 0), #[]⟩
noncomputable def ob415 (P : Params) : Obj := ⟨.none, none, (.func ⟨"op_smod", "op_smod", stP (stAt 56), .stmts (stB (stAt 56)), stS (stAt 56), 0, [], .none, .none, .none, .none, none, .none, .none, 0⟩), #[]⟩
noncomputable def ob416 (P : Params) : Obj := ⟨(.type "code"), none, (.fields #[(.str "op_smod" 766), (.str "op_smod" 767), (.str "/claim/cut.py" 768), (.int 209 0), (.int 2 0), (.int 0 0), (.int 0 0), (.int 3 0), (.ref 411), (.bool true), (.int 181 0), (.ref 412), .none, (.ref 413), (.ref 414), (.ref 415), (.int 773 0), (.int 209 0), (.str "/claim/cut.py" 774)]), #[]⟩
noncomputable def ob417 (P : Params) : Obj := ⟨(.type "function"), none, (.func ⟨"op_smod", "op_smod", stP (stAt 56), .stmts (stB (stAt 56)), stS (stAt 56), 3, [], .none, .none, .none, (.str "gasledger.opsarith" 704), none, (.ref 416), .none, 0⟩), #[]⟩
noncomputable def ob418 (P : Params) : Obj := ⟨(.type "tuple"), none, (.seq #[] 0), #[]⟩
noncomputable def ob419 (P : Params) : Obj := ⟨.none, none, (.fields #[]), #[]⟩
noncomputable def ob420 (P : Params) : Obj := ⟨(.type "tuple"), none, (.seq #[(.str "machine" 779), (.str "frame" 780), (.str "one" 781), (.str "other" 782), (.str "third" 783)] 0), #[]⟩
noncomputable def ob421 (P : Params) : Obj := ⟨(.type "tuple"), none, (.seq #[] 0), #[]⟩
noncomputable def ob422 (P : Params) : Obj := ⟨.none, none, (.func ⟨"op_addmod", "op_addmod", stP (stAt 57), .stmts (stB (stAt 57)), stS (stAt 57), 0, [], .none, .none, .none, .none, none, .none, .none, 0⟩), #[]⟩
noncomputable def ob423 (P : Params) : Obj := ⟨(.type "code"), none, (.fields #[(.str "op_addmod" 776), (.str "op_addmod" 777), (.str "/claim/cut.py" 778), (.int 212 0), (.int 2 0), (.int 0 0), (.int 0 0), (.int 3 0), (.ref 418), (.bool true), (.int 181 0), (.ref 419), .none, (.ref 420), (.ref 421), (.ref 422), (.int 784 0), (.int 212 0), (.str "/claim/cut.py" 785)]), #[]⟩
noncomputable def ob424 (P : Params) : Obj := ⟨(.type "function"), none, (.func ⟨"op_addmod", "op_addmod", stP (stAt 57), .stmts (stB (stAt 57)), stS (stAt 57), 3, [], .none, .none, .none, (.str "gasledger.opsarith" 704), none, (.ref 423), .none, 0⟩), #[]⟩
noncomputable def ob425 (P : Params) : Obj := ⟨(.type "tuple"), none, (.seq #[] 0), #[]⟩
noncomputable def ob426 (P : Params) : Obj := ⟨.none, none, (.fields #[]), #[]⟩
noncomputable def ob427 (P : Params) : Obj := ⟨(.type "tuple"), none, (.seq #[(.str "machine" 790), (.str "frame" 791), (.str "one" 792), (.str "other" 793), (.str "third" 794)] 0), #[]⟩
noncomputable def ob428 (P : Params) : Obj := ⟨(.type "tuple"), none, (.seq #[] 0), #[]⟩
noncomputable def ob429 (P : Params) : Obj := ⟨.none, none, (.func ⟨"op_mulmod", "op_mulmod", stP (stAt 58), .stmts (stB (stAt 58)), stS (stAt 58), 0, [], .none, .none, .none, .none, none, .none, .none, 0⟩), #[]⟩
noncomputable def ob430 (P : Params) : Obj := ⟨(.type "code"), none, (.fields #[(.str "op_mulmod" 787), (.str "op_mulmod" 788), (.str "/claim/cut.py" 789), (.int 215 0), (.int 2 0), (.int 0 0), (.int 0 0), (.int 3 0), (.ref 425), (.bool true), (.int 181 0), (.ref 426), .none, (.ref 427), (.ref 428), (.ref 429), (.int 795 0), (.int 215 0), (.str "/claim/cut.py" 796)]), #[]⟩
noncomputable def ob431 (P : Params) : Obj := ⟨(.type "function"), none, (.func ⟨"op_mulmod", "op_mulmod", stP (stAt 58), .stmts (stB (stAt 58)), stS (stAt 58), 3, [], .none, .none, .none, (.str "gasledger.opsarith" 704), none, (.ref 430), .none, 0⟩), #[]⟩
noncomputable def ob432 (P : Params) : Obj := ⟨(.type "tuple"), none, (.seq #[] 0), #[]⟩
noncomputable def ob433 (P : Params) : Obj := ⟨.none, none, (.fields #[]), #[]⟩
noncomputable def ob434 (P : Params) : Obj := ⟨(.type "tuple"), none, (.seq #[(.str "machine" 801), (.str "frame" 802), (.str "one" 803), (.str "other" 804)] 0), #[]⟩
noncomputable def ob435 (P : Params) : Obj := ⟨(.type "tuple"), none, (.seq #[] 0), #[]⟩
noncomputable def ob436 (P : Params) : Obj := ⟨.none, none, (.func ⟨"op_exp", "op_exp", stP (stAt 59), .stmts (stB (stAt 59)), stS (stAt 59), 0, [], .none, .none, .none, .none, none, .none, .none, 0⟩), #[]⟩
noncomputable def ob437 (P : Params) : Obj := ⟨(.type "code"), none, (.fields #[(.str "op_exp" 798), (.str "op_exp" 799), (.str "/claim/cut.py" 800), (.int 218 0), (.int 2 0), (.int 0 0), (.int 0 0), (.int 3 0), (.ref 432), (.bool true), (.int 181 0), (.ref 433), .none, (.ref 434), (.ref 435), (.ref 436), (.int 805 0), (.int 218 0), (.str "/claim/cut.py" 806)]), #[]⟩
noncomputable def ob438 (P : Params) : Obj := ⟨(.type "function"), none, (.func ⟨"op_exp", "op_exp", stP (stAt 59), .stmts (stB (stAt 59)), stS (stAt 59), 3, [], .none, .none, .none, (.str "gasledger.opsarith" 704), none, (.ref 437), .none, 0⟩), #[]⟩
noncomputable def ob439 (P : Params) : Obj := ⟨(.type "tuple"), none, (.seq #[] 0), #[]⟩
noncomputable def ob440 (P : Params) : Obj := ⟨.none, none, (.fields #[]), #[]⟩
noncomputable def ob441 (P : Params) : Obj := ⟨(.type "tuple"), none, (.seq #[(.str "machine" 811), (.str "frame" 812), (.str "one" 813), (.str "other" 814)] 0), #[]⟩
noncomputable def ob442 (P : Params) : Obj := ⟨(.type "tuple"), none, (.seq #[] 0), #[]⟩
noncomputable def ob443 (P : Params) : Obj := ⟨.none, none, (.func ⟨"op_signextend", "op_signextend", stP (stAt 60), .stmts (stB (stAt 60)), stS (stAt 60), 0, [], .none, .none, .none, .none, none, .none, .none, 0⟩), #[]⟩
noncomputable def ob444 (P : Params) : Obj := ⟨(.type "code"), none, (.fields #[(.str "op_signextend" 808), (.str "op_signextend" 809), (.str "/claim/cut.py" 810), (.int 222 0), (.int 2 0), (.int 0 0), (.int 0 0), (.int 3 0), (.ref 439), (.bool true), (.int 181 0), (.ref 440), .none, (.ref 441), (.ref 442), (.ref 443), (.int 815 0), (.int 222 0), (.str "/claim/cut.py" 816)]), #[]⟩
noncomputable def ob445 (P : Params) : Obj := ⟨(.type "function"), none, (.func ⟨"op_signextend", "op_signextend", stP (stAt 60), .stmts (stB (stAt 60)), stS (stAt 60), 3, [], .none, .none, .none, (.str "gasledger.opsarith" 704), none, (.ref 444), .none, 0⟩), #[]⟩
noncomputable def ob446 (P : Params) : Obj := ⟨(.type "tuple"), none, (.seq #[] 0), #[]⟩
noncomputable def ob447 (P : Params) : Obj := ⟨.none, none, (.fields #[]), #[]⟩
noncomputable def ob448 (P : Params) : Obj := ⟨(.type "tuple"), none, (.seq #[(.str "machine" 821), (.str "frame" 822), (.str "one" 823), (.str "other" 824)] 0), #[]⟩
noncomputable def ob449 (P : Params) : Obj := ⟨(.type "tuple"), none, (.seq #[] 0), #[]⟩
noncomputable def ob450 (P : Params) : Obj := ⟨.none, none, (.func ⟨"op_lt", "op_lt", stP (stAt 61), .stmts (stB (stAt 61)), stS (stAt 61), 0, [], .none, .none, .none, .none, none, .none, .none, 0⟩), #[]⟩
noncomputable def ob451 (P : Params) : Obj := ⟨(.type "code"), none, (.fields #[(.str "op_lt" 818), (.str "op_lt" 819), (.str "/claim/cut.py" 820), (.int 225 0), (.int 2 0), (.int 0 0), (.int 0 0), (.int 3 0), (.ref 446), (.bool true), (.int 181 0), (.ref 447), .none, (.ref 448), (.ref 449), (.ref 450), (.int 825 0), (.int 225 0), (.str "/claim/cut.py" 826)]), #[]⟩
noncomputable def ob452 (P : Params) : Obj := ⟨(.type "function"), none, (.func ⟨"op_lt", "op_lt", stP (stAt 61), .stmts (stB (stAt 61)), stS (stAt 61), 3, [], .none, .none, .none, (.str "gasledger.opsarith" 704), none, (.ref 451), .none, 0⟩), #[]⟩
noncomputable def ob453 (P : Params) : Obj := ⟨(.type "tuple"), none, (.seq #[] 0), #[]⟩
noncomputable def ob454 (P : Params) : Obj := ⟨.none, none, (.fields #[]), #[]⟩
noncomputable def ob455 (P : Params) : Obj := ⟨(.type "tuple"), none, (.seq #[(.str "machine" 831), (.str "frame" 832), (.str "one" 833), (.str "other" 834)] 0), #[]⟩
noncomputable def ob456 (P : Params) : Obj := ⟨(.type "tuple"), none, (.seq #[] 0), #[]⟩
noncomputable def ob457 (P : Params) : Obj := ⟨.none, none, (.func ⟨"op_gt", "op_gt", stP (stAt 62), .stmts (stB (stAt 62)), stS (stAt 62), 0, [], .none, .none, .none, .none, none, .none, .none, 0⟩), #[]⟩
noncomputable def ob458 (P : Params) : Obj := ⟨(.type "code"), none, (.fields #[(.str "op_gt" 828), (.str "op_gt" 829), (.str "/claim/cut.py" 830), (.int 228 0), (.int 2 0), (.int 0 0), (.int 0 0), (.int 3 0), (.ref 453), (.bool true), (.int 181 0), (.ref 454), .none, (.ref 455), (.ref 456), (.ref 457), (.int 835 0), (.int 228 0), (.str "/claim/cut.py" 836)]), #[]⟩
noncomputable def ob459 (P : Params) : Obj := ⟨(.type "function"), none, (.func ⟨"op_gt", "op_gt", stP (stAt 62), .stmts (stB (stAt 62)), stS (stAt 62), 3, [], .none, .none, .none, (.str "gasledger.opsarith" 704), none, (.ref 458), .none, 0⟩), #[]⟩
noncomputable def ob460 (P : Params) : Obj := ⟨(.type "tuple"), none, (.seq #[] 0), #[]⟩
noncomputable def ob461 (P : Params) : Obj := ⟨.none, none, (.fields #[]), #[]⟩
noncomputable def ob462 (P : Params) : Obj := ⟨(.type "tuple"), none, (.seq #[(.str "machine" 841), (.str "frame" 842), (.str "one" 843), (.str "other" 844)] 0), #[]⟩
noncomputable def ob463 (P : Params) : Obj := ⟨(.type "tuple"), none, (.seq #[] 0), #[]⟩
noncomputable def ob464 (P : Params) : Obj := ⟨.none, none, (.func ⟨"op_slt", "op_slt", stP (stAt 63), .stmts (stB (stAt 63)), stS (stAt 63), 0, [], .none, .none, .none, .none, none, .none, .none, 0⟩), #[]⟩
noncomputable def ob465 (P : Params) : Obj := ⟨(.type "code"), none, (.fields #[(.str "op_slt" 838), (.str "op_slt" 839), (.str "/claim/cut.py" 840), (.int 231 0), (.int 2 0), (.int 0 0), (.int 0 0), (.int 3 0), (.ref 460), (.bool true), (.int 181 0), (.ref 461), .none, (.ref 462), (.ref 463), (.ref 464), (.int 845 0), (.int 231 0), (.str "/claim/cut.py" 846)]), #[]⟩
noncomputable def ob466 (P : Params) : Obj := ⟨(.type "function"), none, (.func ⟨"op_slt", "op_slt", stP (stAt 63), .stmts (stB (stAt 63)), stS (stAt 63), 3, [], .none, .none, .none, (.str "gasledger.opsarith" 704), none, (.ref 465), .none, 0⟩), #[]⟩
noncomputable def ob467 (P : Params) : Obj := ⟨(.type "tuple"), none, (.seq #[] 0), #[]⟩
noncomputable def ob468 (P : Params) : Obj := ⟨.none, none, (.fields #[]), #[]⟩
noncomputable def ob469 (P : Params) : Obj := ⟨(.type "tuple"), none, (.seq #[(.str "machine" 851), (.str "frame" 852), (.str "one" 853), (.str "other" 854)] 0), #[]⟩
noncomputable def ob470 (P : Params) : Obj := ⟨(.type "tuple"), none, (.seq #[] 0), #[]⟩
noncomputable def ob471 (P : Params) : Obj := ⟨.none, none, (.func ⟨"op_sgt", "op_sgt", stP (stAt 64), .stmts (stB (stAt 64)), stS (stAt 64), 0, [], .none, .none, .none, .none, none, .none, .none, 0⟩), #[]⟩
noncomputable def ob472 (P : Params) : Obj := ⟨(.type "code"), none, (.fields #[(.str "op_sgt" 848), (.str "op_sgt" 849), (.str "/claim/cut.py" 850), (.int 234 0), (.int 2 0), (.int 0 0), (.int 0 0), (.int 3 0), (.ref 467), (.bool true), (.int 181 0), (.ref 468), .none, (.ref 469), (.ref 470), (.ref 471), (.int 855 0), (.int 234 0), (.str "/claim/cut.py" 856)]), #[]⟩
noncomputable def ob473 (P : Params) : Obj := ⟨(.type "function"), none, (.func ⟨"op_sgt", "op_sgt", stP (stAt 64), .stmts (stB (stAt 64)), stS (stAt 64), 3, [], .none, .none, .none, (.str "gasledger.opsarith" 704), none, (.ref 472), .none, 0⟩), #[]⟩
noncomputable def ob474 (P : Params) : Obj := ⟨(.type "tuple"), none, (.seq #[] 0), #[]⟩
noncomputable def ob475 (P : Params) : Obj := ⟨.none, none, (.fields #[]), #[]⟩
noncomputable def ob476 (P : Params) : Obj := ⟨(.type "tuple"), none, (.seq #[(.str "machine" 861), (.str "frame" 862), (.str "one" 863), (.str "other" 864)] 0), #[]⟩
noncomputable def ob477 (P : Params) : Obj := ⟨(.type "tuple"), none, (.seq #[] 0), #[]⟩
noncomputable def ob478 (P : Params) : Obj := ⟨.none, none, (.func ⟨"op_eq", "op_eq", stP (stAt 65), .stmts (stB (stAt 65)), stS (stAt 65), 0, [], .none, .none, .none, .none, none, .none, .none, 0⟩), #[]⟩
noncomputable def ob479 (P : Params) : Obj := ⟨(.type "code"), none, (.fields #[(.str "op_eq" 858), (.str "op_eq" 859), (.str "/claim/cut.py" 860), (.int 237 0), (.int 2 0), (.int 0 0), (.int 0 0), (.int 3 0), (.ref 474), (.bool true), (.int 181 0), (.ref 475), .none, (.ref 476), (.ref 477), (.ref 478), (.int 865 0), (.int 237 0), (.str "/claim/cut.py" 866)]), #[]⟩
noncomputable def ob480 (P : Params) : Obj := ⟨(.type "function"), none, (.func ⟨"op_eq", "op_eq", stP (stAt 65), .stmts (stB (stAt 65)), stS (stAt 65), 3, [], .none, .none, .none, (.str "gasledger.opsarith" 704), none, (.ref 479), .none, 0⟩), #[]⟩
noncomputable def ob481 (P : Params) : Obj := ⟨(.type "tuple"), none, (.seq #[] 0), #[]⟩
noncomputable def ob482 (P : Params) : Obj := ⟨.none, none, (.fields #[]), #[]⟩
noncomputable def ob483 (P : Params) : Obj := ⟨(.type "tuple"), none, (.seq #[(.str "machine" 871), (.str "frame" 872)] 0), #[]⟩
noncomputable def ob484 (P : Params) : Obj := ⟨(.type "tuple"), none, (.seq #[] 0), #[]⟩
noncomputable def ob485 (P : Params) : Obj := ⟨.none, none, (.func ⟨"op_iszero", "op_iszero", stP (stAt 66), .stmts (stB (stAt 66)), stS (stAt 66), 0, [], .none, .none, .none, .none, none, .none, .none, 0⟩), #[]⟩
noncomputable def ob486 (P : Params) : Obj := ⟨(.type "code"), none, (.fields #[(.str "op_iszero" 868), (.str "op_iszero" 869), (.str "/claim/cut.py" 870), (.int 240 0), (.int 2 0), (.int 0 0), (.int 0 0), (.int 3 0), (.ref 481), (.bool true), (.int 181 0), (.ref 482), .none, (.ref 483), (.ref 484), (.ref 485), (.int 873 0), (.int 240 0), (.str "/claim/cut.py" 874)]), #[]⟩
noncomputable def ob487 (P : Params) : Obj := ⟨(.type "function"), none, (.func ⟨"op_iszero", "op_iszero", stP (stAt 66), .stmts (stB (stAt 66)), stS (stAt 66), 3, [], .none, .none, .none, (.str "gasledger.opsarith" 704), none, (.ref 486), .none, 0⟩), #[]⟩
noncomputable def ob488 (P : Params) : Obj := ⟨(.type "tuple"), none, (.seq #[] 0), #[]⟩
noncomputable def ob489 (P : Params) : Obj := ⟨.none, none, (.fields #[]), #[]⟩
noncomputable def ob490 (P : Params) : Obj := ⟨(.type "tuple"), none, (.seq #[(.str "machine" 879), (.str "frame" 880), (.str "one" 881), (.str "other" 882)] 0), #[]⟩
noncomputable def ob491 (P : Params) : Obj := ⟨(.type "tuple"), none, (.seq #[] 0), #[]⟩
noncomputable def ob492 (P : Params) : Obj := ⟨.none, none, (.func ⟨"op_and", "op_and", stP (stAt 67), .stmts (stB (stAt 67)), stS (stAt 67), 0, [], .none, .none, .none, .none, none, .none, .none, 0⟩), #[]⟩
noncomputable def ob493 (P : Params) : Obj := ⟨(.type "code"), none, (.fields #[(.str "op_and" 876), (.str "op_and" 877), (.str "/claim/cut.py" 878), (.int 242 0), (.int 2 0), (.int 0 0), (.int 0 0), (.int 3 0), (.ref 488), (.bool true), (.int 181 0), (.ref 489), .none, (.ref 490), (.ref 491), (.ref 492), (.int 883 0), (.int 242 0), (.str "/claim/cut.py" 884)]), #[]⟩
noncomputable def ob494 (P : Params) : Obj := ⟨(.type "function"), none, (.func ⟨"op_and", "op_and", stP (stAt 67), .stmts (stB (stAt 67)), stS (stAt 67), 3, [], .none, .none, .none, (.str "gasledger.opsarith" 704), none, (.ref 493), .none, 0⟩), #[]⟩
noncomputable def ob495 (P : Params) : Obj := ⟨(.type "tuple"), none, (.seq #[] 0), #[]⟩
noncomputable def ob496 (P : Params) : Obj := ⟨.none, none, (.fields #[]), #[]⟩
noncomputable def ob497 (P : Params) : Obj := ⟨(.type "tuple"), none, (.seq #[(.str "machine" 889), (.str "frame" 890), (.str "one" 891), (.str "other" 892)] 0), #[]⟩
noncomputable def ob498 (P : Params) : Obj := ⟨(.type "tuple"), none, (.seq #[] 0), #[]⟩
noncomputable def ob499 (P : Params) : Obj := ⟨.none, none, (.func ⟨"op_or", "op_or", stP (stAt 68), .stmts (stB (stAt 68)), stS (stAt 68), 0, [], .none, .none, .none, .none, none, .none, .none, 0⟩), #[]⟩
noncomputable def ob500 (P : Params) : Obj := ⟨(.type "code"), none, (.fields #[(.str "op_or" 886), (.str "op_or" 887), (.str "/claim/cut.py" 888), (.int 245 0), (.int 2 0), (.int 0 0), (.int 0 0), (.int 3 0), (.ref 495), (.bool true), (.int 181 0), (.ref 496), .none, (.ref 497), (.ref 498), (.ref 499), (.int 893 0), (.int 245 0), (.str "/claim/cut.py" 894)]), #[]⟩
noncomputable def ob501 (P : Params) : Obj := ⟨(.type "function"), none, (.func ⟨"op_or", "op_or", stP (stAt 68), .stmts (stB (stAt 68)), stS (stAt 68), 3, [], .none, .none, .none, (.str "gasledger.opsarith" 704), none, (.ref 500), .none, 0⟩), #[]⟩
noncomputable def ob502 (P : Params) : Obj := ⟨(.type "tuple"), none, (.seq #[] 0), #[]⟩
noncomputable def ob503 (P : Params) : Obj := ⟨.none, none, (.fields #[]), #[]⟩
noncomputable def ob504 (P : Params) : Obj := ⟨(.type "tuple"), none, (.seq #[(.str "machine" 899), (.str "frame" 900), (.str "one" 901), (.str "other" 902)] 0), #[]⟩
noncomputable def ob505 (P : Params) : Obj := ⟨(.type "tuple"), none, (.seq #[] 0), #[]⟩
noncomputable def ob506 (P : Params) : Obj := ⟨.none, none, (.func ⟨"op_xor", "op_xor", stP (stAt 69), .stmts (stB (stAt 69)), stS (stAt 69), 0, [], .none, .none, .none, .none, none, .none, .none, 0⟩), #[]⟩
noncomputable def ob507 (P : Params) : Obj := ⟨(.type "code"), none, (.fields #[(.str "op_xor" 896), (.str "op_xor" 897), (.str "/claim/cut.py" 898), (.int 248 0), (.int 2 0), (.int 0 0), (.int 0 0), (.int 3 0), (.ref 502), (.bool true), (.int 181 0), (.ref 503), .none, (.ref 504), (.ref 505), (.ref 506), (.int 903 0), (.int 248 0), (.str "/claim/cut.py" 904)]), #[]⟩
noncomputable def ob508 (P : Params) : Obj := ⟨(.type "function"), none, (.func ⟨"op_xor", "op_xor", stP (stAt 69), .stmts (stB (stAt 69)), stS (stAt 69), 3, [], .none, .none, .none, (.str "gasledger.opsarith" 704), none, (.ref 507), .none, 0⟩), #[]⟩
noncomputable def ob509 (P : Params) : Obj := ⟨(.type "tuple"), none, (.seq #[] 0), #[]⟩
noncomputable def ob510 (P : Params) : Obj := ⟨.none, none, (.fields #[]), #[]⟩
noncomputable def ob511 (P : Params) : Obj := ⟨(.type "tuple"), none, (.seq #[(.str "machine" 909), (.str "frame" 910)] 0), #[]⟩
noncomputable def ob512 (P : Params) : Obj := ⟨(.type "tuple"), none, (.seq #[] 0), #[]⟩
noncomputable def ob513 (P : Params) : Obj := ⟨.none, none, (.func ⟨"op_not", "op_not", stP (stAt 70), .stmts (stB (stAt 70)), stS (stAt 70), 0, [], .none, .none, .none, .none, none, .none, .none, 0⟩), #[]⟩
noncomputable def ob514 (P : Params) : Obj := ⟨(.type "code"), none, (.fields #[(.str "op_not" 906), (.str "op_not" 907), (.str "/claim/cut.py" 908), (.int 251 0), (.int 2 0), (.int 0 0), (.int 0 0), (.int 3 0), (.ref 509), (.bool true), (.int 181 0), (.ref 510), .none, (.ref 511), (.ref 512), (.ref 513), (.int 911 0), (.int 251 0), (.str "/claim/cut.py" 912)]), #[]⟩
noncomputable def ob515 (P : Params) : Obj := ⟨(.type "function"), none, (.func ⟨"op_not", "op_not", stP (stAt 70), .stmts (stB (stAt 70)), stS (stAt 70), 3, [], .none, .none, .none, (.str "gasledger.opsarith" 704), none, (.ref 514), .none, 0⟩), #[]⟩
noncomputable def ob516 (P : Params) : Obj := ⟨(.type "tuple"), none, (.seq #[] 0), #[]⟩
noncomputable def ob517 (P : Params) : Obj := ⟨.none, none, (.fields #[]), #[]⟩
noncomputable def ob518 (P : Params) : Obj := ⟨(.type "tuple"), none, (.seq #[(.str "machine" 917), (.str "frame" 918), (.str "one" 919), (.str "other" 920)] 0), #[]⟩
noncomputable def ob519 (P : Params) : Obj := ⟨(.type "tuple"), none, (.seq #[] 0), #[]⟩
noncomputable def ob520 (P : Params) : Obj := ⟨.none, none, (.func ⟨"op_byte", "op_byte", stP (stAt 71), .stmts (stB (stAt 71)), stS (stAt 71), 0, [], .none, .none, .none, .none, none, .none, .none, 0⟩), #[]⟩
noncomputable def ob521 (P : Params) : Obj := ⟨(.type "code"), none, (.fields #[(.str "op_byte" 914), (.str "op_byte" 915), (.str "/claim/cut.py" 916), (.int 253 0), (.int 2 0), (.int 0 0), (.int 0 0), (.int 3 0), (.ref 516), (.bool true), (.int 181 0), (.ref 517), .none, (.ref 518), (.ref 519), (.ref 520), (.int 921 0), (.int 253 0), (.str "/claim/cut.py" 922)]), #[]⟩
noncomputable def ob522 (P : Params) : Obj := ⟨(.type "function"), none, (.func ⟨"op_byte", "op_byte", stP (stAt 71), .stmts (stB (stAt 71)), stS (stAt 71), 3, [], .none, .none, .none, (.str "gasledger.opsarith" 704), none, (.ref 521), .none, 0⟩), #[]⟩
noncomputable def ob523 (P : Params) : Obj := ⟨(.type "tuple"), none, (.seq #[] 0), #[]⟩
noncomputable def ob524 (P : Params) : Obj := ⟨.none, none, (.fields #[]), #[]⟩
noncomputable def ob525 (P : Params) : Obj := ⟨(.type "tuple"), none, (.seq #[(.str "machine" 927), (.str "frame" 928), (.str "one" 929), (.str "other" 930)] 0), #[]⟩
noncomputable def ob526 (P : Params) : Obj := ⟨(.type "tuple"), none, (.seq #[] 0), #[]⟩
noncomputable def ob527 (P : Params) : Obj := ⟨.none, none, (.func ⟨"op_shl", "op_shl", stP (stAt 72), .stmts (stB (stAt 72)), stS (stAt 72), 0, [], .none, .none, .none, .none, none, .none, .none, 0⟩), #[]⟩
noncomputable def ob528 (P : Params) : Obj := ⟨(.type "code"), none, (.fields #[(.str "op_shl" 924), (.str "op_shl" 925), (.str "/claim/cut.py" 926), (.int 256 0), (.int 2 0), (.int 0 0), (.int 0 0), (.int 3 0), (.ref 523), (.bool true), (.int 181 0), (.ref 524), .none, (.ref 525), (.ref 526), (.ref 527), (.int 931 0), (.int 256 0), (.str "/claim/cut.py" 932)]), #[]⟩
noncomputable def ob529 (P : Params) : Obj := ⟨(.type "function"), none, (.func ⟨"op_shl", "op_shl", stP (stAt 72), .stmts (stB (stAt 72)), stS (stAt 72), 3, [], .none, .none, .none, (.str "gasledger.opsarith" 704), none, (.ref 528), .none, 0⟩), #[]⟩
noncomputable def ob530 (P : Params) : Obj := ⟨(.type "tuple"), none, (.seq #[] 0), #[]⟩
noncomputable def ob531 (P : Params) : Obj := ⟨.none, none, (.fields #[]), #[]⟩
noncomputable def ob532 (P : Params) : Obj := ⟨(.type "tuple"), none, (.seq #[(.str "machine" 937), (.str "frame" 938), (.str "one" 939), (.str "other" 940)] 0), #[]⟩
noncomputable def ob533 (P : Params) : Obj := ⟨(.type "tuple"), none, (.seq #[] 0), #[]⟩
noncomputable def ob534 (P : Params) : Obj := ⟨.none, none, (.func ⟨"op_shr", "op_shr", stP (stAt 73), .stmts (stB (stAt 73)), stS (stAt 73), 0, [], .none, .none, .none, .none, none, .none, .none, 0⟩), #[]⟩
noncomputable def ob535 (P : Params) : Obj := ⟨(.type "code"), none, (.fields #[(.str "op_shr" 934), (.str "op_shr" 935), (.str "/claim/cut.py" 936), (.int 259 0), (.int 2 0), (.int 0 0), (.int 0 0), (.int 3 0), (.ref 530), (.bool true), (.int 181 0), (.ref 531), .none, (.ref 532), (.ref 533), (.ref 534), (.int 941 0), (.int 259 0), (.str "/claim/cut.py" 942)]), #[]⟩
noncomputable def ob536 (P : Params) : Obj := ⟨(.type "function"), none, (.func ⟨"op_shr", "op_shr", stP (stAt 73), .stmts (stB (stAt 73)), stS (stAt 73), 3, [], .none, .none, .none, (.str "gasledger.opsarith" 704), none, (.ref 535), .none, 0⟩), #[]⟩
noncomputable def ob537 (P : Params) : Obj := ⟨(.type "tuple"), none, (.seq #[] 0), #[]⟩
noncomputable def ob538 (P : Params) : Obj := ⟨.none, none, (.fields #[]), #[]⟩
noncomputable def ob539 (P : Params) : Obj := ⟨(.type "tuple"), none, (.seq #[(.str "machine" 947), (.str "frame" 948), (.str "one" 949), (.str "other" 950)] 0), #[]⟩
noncomputable def ob540 (P : Params) : Obj := ⟨(.type "tuple"), none, (.seq #[] 0), #[]⟩
noncomputable def ob541 (P : Params) : Obj := ⟨.none, none, (.func ⟨"op_sar", "op_sar", stP (stAt 74), .stmts (stB (stAt 74)), stS (stAt 74), 0, [], .none, .none, .none, .none, none, .none, .none, 0⟩), #[]⟩
noncomputable def ob542 (P : Params) : Obj := ⟨(.type "code"), none, (.fields #[(.str "op_sar" 944), (.str "op_sar" 945), (.str "/claim/cut.py" 946), (.int 262 0), (.int 2 0), (.int 0 0), (.int 0 0), (.int 3 0), (.ref 537), (.bool true), (.int 181 0), (.ref 538), .none, (.ref 539), (.ref 540), (.ref 541), (.int 951 0), (.int 262 0), (.str "/claim/cut.py" 952)]), #[]⟩
noncomputable def ob543 (P : Params) : Obj := ⟨(.type "function"), none, (.func ⟨"op_sar", "op_sar", stP (stAt 74), .stmts (stB (stAt 74)), stS (stAt 74), 3, [], .none, .none, .none, (.str "gasledger.opsarith" 704), none, (.ref 542), .none, 0⟩), #[]⟩
noncomputable def ob544 (P : Params) : Obj := ⟨(.type "tuple"), none, (.seq #[] 0), #[]⟩
noncomputable def ob545 (P : Params) : Obj := ⟨.none, none, (.fields #[]), #[]⟩
noncomputable def ob546 (P : Params) : Obj := ⟨(.type "tuple"), none, (.seq #[(.str "machine" 957), (.str "frame" 958), (.str "place" 959), (.str "size" 960)] 0), #[]⟩
noncomputable def ob547 (P : Params) : Obj := ⟨(.type "tuple"), none, (.seq #[] 0), #[]⟩
noncomputable def ob548 (P : Params) : Obj := ⟨.none, none, (.func ⟨"op_keccak256", "op_keccak256", stP (stAt 75), .stmts (stB (stAt 75)), stS (stAt 75), 0, [], .none, .none, .none, .none, none, .none, .none, 0⟩), #[]⟩
noncomputable def ob549 (P : Params) : Obj := ⟨(.type "code"), none, (.fields #[(.str "op_keccak256" 954), (.str "op_keccak256" 955), (.str "/claim/cut.py" 956), (.int 265 0), (.int 2 0), (.int 0 0), (.int 0 0), (.int 3 0), (.ref 544), (.bool true), (.int 181 0), (.ref 545), .none, (.ref 546), (.ref 547), (.ref 548), (.int 961 0), (.int 265 0), (.str "/claim/cut.py" 962)]), #[]⟩
noncomputable def ob550 (P : Params) : Obj := ⟨(.type "function"), none, (.func ⟨"op_keccak256", "op_keccak256", stP (stAt 75), .stmts (stB (stAt 75)), stS (stAt 75), 3, [], .none, .none, .none, (.str "gasledger.opsarith" 704), none, (.ref 549), .none, 0⟩), #[]⟩
noncomputable def ob551 (P : Params) : Obj := ⟨(.type "tuple"), none, (.seq #[] 0), #[]⟩
noncomputable def ob552 (P : Params) : Obj := ⟨.none, none, (.fields #[]), #[]⟩
noncomputable def ob553 (P : Params) : Obj := ⟨(.type "tuple"), none, (.seq #[] 0), #[]⟩
noncomputable def ob554 (P : Params) : Obj := ⟨(.type "tuple"), none, (.seq #[] 0), #[]⟩
noncomputable def ob555 (P : Params) : Obj := ⟨.none, none, (.func ⟨"arithmetic", "arithmetic", stP (stAt 76), .stmts (stB (stAt 76)), stS (stAt 76), 0, [], .none, .none, .none, .none, none, .none, .none, 0⟩), #[]⟩
noncomputable def ob556 (P : Params) : Obj := ⟨(.type "code"), none, (.fields #[(.str "arithmetic" 964), (.str "arithmetic" 965), (.str "/claim/cut.py" 966), (.int 270 0), (.int 0 0), (.int 0 0), (.int 0 0), (.int 3 0), (.ref 551), (.bool true), (.int 181 0), (.ref 552), .none, (.ref 553), (.ref 554), (.ref 555), (.int 967 0), (.int 270 0), (.str "/claim/cut.py" 968)]), #[]⟩
noncomputable def ob557 (P : Params) : Obj := ⟨(.type "function"), none, (.func ⟨"arithmetic", "arithmetic", stP (stAt 76), .stmts (stB (stAt 76)), stS (stAt 76), 3, [], .none, .none, .none, (.str "gasledger.opsarith" 704), none, (.ref 556), .none, 0⟩), #[]⟩
noncomputable def ob558 (P : Params) : Obj := ⟨(.type "tuple"), none, (.seq #[] 0), #[]⟩
noncomputable def ob559 (P : Params) : Obj := ⟨.none, none, (.fields #[]), #[]⟩
noncomputable def ob560 (P : Params) : Obj := ⟨(.type "tuple"), none, (.seq #[] 0), #[]⟩
noncomputable def ob561 (P : Params) : Obj := ⟨(.type "tuple"), none, (.seq #[] 0), #[]⟩
noncomputable def ob562 (P : Params) : Obj := ⟨.none, none, (.func ⟨"_law_WORD", "_law_WORD", stP (stAt 78), .stmts (stB (stAt 78)), stS (stAt 78), 0, [], .none, .none, .none, .none, none, .none, .none, 0⟩), #[]⟩
noncomputable def ob563 (P : Params) : Obj := ⟨(.type "code"), none, (.fields #[(.str "_law_WORD" 972), (.str "_law_WORD" 973), (.str "/claim/cut.py" 974), (.int 273 0), (.int 0 0), (.int 0 0), (.int 0 0), (.int 3 0), (.ref 558), (.bool true), (.int 181 0), (.ref 559), .none, (.ref 560), (.ref 561), (.ref 562), (.int 975 0), (.int 273 0), (.str "/claim/cut.py" 976)]), #[]⟩
noncomputable def ob564 (P : Params) : Obj := ⟨(.type "function"), none, (.func ⟨"_law_WORD", "_law_WORD", stP (stAt 78), .stmts (stB (stAt 78)), stS (stAt 78), 3, [], .none, .none, .none, (.str "law_pq0409_01" 970), none, (.ref 563), .none, 0⟩), #[]⟩
noncomputable def ob565 (P : Params) : Obj := ⟨(.type "tuple"), none, (.seq #[] 0), #[]⟩
noncomputable def ob566 (P : Params) : Obj := ⟨.none, none, (.fields #[]), #[]⟩
noncomputable def ob567 (P : Params) : Obj := ⟨(.type "tuple"), none, (.seq #[(.str "well" 981), (.str "size" 982), (.str "gotten" 983)] 0), #[]⟩
noncomputable def ob568 (P : Params) : Obj := ⟨(.type "tuple"), none, (.seq #[] 0), #[]⟩
noncomputable def ob569 (P : Params) : Obj := ⟨.none, none, (.func ⟨"_law_draw", "_law_draw", stP (stAt 79), .stmts (stB (stAt 79)), stS (stAt 79), 0, [], .none, .none, .none, .none, none, .none, .none, 0⟩), #[]⟩
noncomputable def ob570 (P : Params) : Obj := ⟨(.type "code"), none, (.fields #[(.str "_law_draw" 978), (.str "_law_draw" 979), (.str "/claim/cut.py" 980), (.int 275 0), (.int 2 0), (.int 0 0), (.int 0 0), (.int 3 0), (.ref 565), (.bool true), (.int 181 0), (.ref 566), .none, (.ref 567), (.ref 568), (.ref 569), (.int 984 0), (.int 275 0), (.str "/claim/cut.py" 985)]), #[]⟩
noncomputable def ob571 (P : Params) : Obj := ⟨(.type "function"), none, (.func ⟨"_law_draw", "_law_draw", stP (stAt 79), .stmts (stB (stAt 79)), stS (stAt 79), 3, [], .none, .none, .none, (.str "law_pq0409_01" 970), none, (.ref 570), .none, 0⟩), #[]⟩
noncomputable def ob572 (P : Params) : Obj := ⟨(.type "tuple"), none, (.seq #[] 0), #[]⟩
noncomputable def ob573 (P : Params) : Obj := ⟨.none, none, (.fields #[]), #[]⟩
noncomputable def ob574 (P : Params) : Obj := ⟨(.type "tuple"), none, (.seq #[(.str "well" 990), (.str "way" 991), (.str "pick_here" 992), (.str "sum_here" 993), (.str "turn" 994)] 0), #[]⟩
noncomputable def ob575 (P : Params) : Obj := ⟨(.type "tuple"), none, (.seq #[] 0), #[]⟩
noncomputable def ob576 (P : Params) : Obj := ⟨.none, none, (.func ⟨"_law_word", "_law_word", stP (stAt 80), .stmts (stB (stAt 80)), stS (stAt 80), 0, [], .none, .none, .none, .none, none, .none, .none, 0⟩), #[]⟩
noncomputable def ob577 (P : Params) : Obj := ⟨(.type "code"), none, (.fields #[(.str "_law_word" 987), (.str "_law_word" 988), (.str "/claim/cut.py" 989), (.int 280 0), (.int 1 0), (.int 0 0), (.int 0 0), (.int 3 0), (.ref 572), (.bool true), (.int 181 0), (.ref 573), .none, (.ref 574), (.ref 575), (.ref 576), (.int 995 0), (.int 280 0), (.str "/claim/cut.py" 996)]), #[]⟩
noncomputable def ob578 (P : Params) : Obj := ⟨(.type "function"), none, (.func ⟨"_law_word", "_law_word", stP (stAt 80), .stmts (stB (stAt 80)), stS (stAt 80), 3, [], .none, .none, .none, (.str "law_pq0409_01" 970), none, (.ref 577), .none, 0⟩), #[]⟩
noncomputable def ob579 (P : Params) : Obj := ⟨(.type "tuple"), none, (.seq #[] 0), #[]⟩
noncomputable def ob580 (P : Params) : Obj := ⟨.none, none, (.fields #[]), #[]⟩
noncomputable def ob581 (P : Params) : Obj := ⟨(.type "tuple"), none, (.seq #[(.str "well" 1001), (.str "first" 1002), (.str "way" 1003), (.str "pick_here" 1004)] 0), #[]⟩
noncomputable def ob582 (P : Params) : Obj := ⟨(.type "tuple"), none, (.seq #[] 0), #[]⟩
noncomputable def ob583 (P : Params) : Obj := ⟨.none, none, (.func ⟨"_law_second", "_law_second", stP (stAt 81), .stmts (stB (stAt 81)), stS (stAt 81), 0, [], .none, .none, .none, .none, none, .none, .none, 0⟩), #[]⟩
noncomputable def ob584 (P : Params) : Obj := ⟨(.type "code"), none, (.fields #[(.str "_law_second" 998), (.str "_law_second" 999), (.str "/claim/cut.py" 1000), (.int 296 0), (.int 2 0), (.int 0 0), (.int 0 0), (.int 3 0), (.ref 579), (.bool true), (.int 181 0), (.ref 580), .none, (.ref 581), (.ref 582), (.ref 583), (.int 1005 0), (.int 296 0), (.str "/claim/cut.py" 1006)]), #[]⟩
noncomputable def ob585 (P : Params) : Obj := ⟨(.type "function"), none, (.func ⟨"_law_second", "_law_second", stP (stAt 81), .stmts (stB (stAt 81)), stS (stAt 81), 3, [], .none, .none, .none, (.str "law_pq0409_01" 970), none, (.ref 584), .none, 0⟩), #[]⟩
noncomputable def ob586 (P : Params) : Obj := ⟨(.type "tuple"), none, (.seq #[] 0), #[]⟩
noncomputable def ob587 (P : Params) : Obj := ⟨.none, none, (.fields #[]), #[]⟩
noncomputable def ob588 (P : Params) : Obj := ⟨(.type "tuple"), none, (.seq #[(.str "well" 1011), (.str "size" 1012)] 0), #[]⟩
noncomputable def ob589 (P : Params) : Obj := ⟨(.type "tuple"), none, (.seq #[] 0), #[]⟩
noncomputable def ob590 (P : Params) : Obj := ⟨.none, none, (.func ⟨"_law_count", "_law_count", stP (stAt 82), .stmts (stB (stAt 82)), stS (stAt 82), 0, [], .none, .none, .none, .none, none, .none, .none, 0⟩), #[]⟩
noncomputable def ob591 (P : Params) : Obj := ⟨(.type "code"), none, (.fields #[(.str "_law_count" 1008), (.str "_law_count" 1009), (.str "/claim/cut.py" 1010), (.int 309 0), (.int 2 0), (.int 0 0), (.int 0 0), (.int 3 0), (.ref 586), (.bool true), (.int 181 0), (.ref 587), .none, (.ref 588), (.ref 589), (.ref 590), (.int 1013 0), (.int 309 0), (.str "/claim/cut.py" 1014)]), #[]⟩
noncomputable def ob592 (P : Params) : Obj := ⟨(.type "function"), none, (.func ⟨"_law_count", "_law_count", stP (stAt 82), .stmts (stB (stAt 82)), stS (stAt 82), 3, [], .none, .none, .none, (.str "law_pq0409_01" 970), none, (.ref 591), .none, 0⟩), #[]⟩
noncomputable def ob593 (P : Params) : Obj := ⟨(.type "tuple"), none, (.seq #[] 0), #[]⟩
noncomputable def ob594 (P : Params) : Obj := ⟨.none, none, (.fields #[]), #[]⟩
noncomputable def ob595 (P : Params) : Obj := ⟨(.type "tuple"), none, (.seq #[(.str "well" 1019), (.str "a" 1020), (.str "b" 1021), (.str "menu_here" 1022)] 0), #[]⟩
noncomputable def ob596 (P : Params) : Obj := ⟨(.type "tuple"), none, (.seq #[] 0), #[]⟩
noncomputable def ob597 (P : Params) : Obj := ⟨.none, none, (.func ⟨"_law_whole", "_law_whole", stP (stAt 83), .stmts (stB (stAt 83)), stS (stAt 83), 0, [], .none, .none, .none, .none, none, .none, .none, 0⟩), #[]⟩
noncomputable def ob598 (P : Params) : Obj := ⟨(.type "code"), none, (.fields #[(.str "_law_whole" 1016), (.str "_law_whole" 1017), (.str "/claim/cut.py" 1018), (.int 311 0), (.int 3 0), (.int 0 0), (.int 0 0), (.int 3 0), (.ref 593), (.bool true), (.int 181 0), (.ref 594), .none, (.ref 595), (.ref 596), (.ref 597), (.int 1023 0), (.int 311 0), (.str "/claim/cut.py" 1024)]), #[]⟩
noncomputable def ob599 (P : Params) : Obj := ⟨(.type "function"), none, (.func ⟨"_law_whole", "_law_whole", stP (stAt 83), .stmts (stB (stAt 83)), stS (stAt 83), 3, [], .none, .none, .none, (.str "law_pq0409_01" 970), none, (.ref 598), .none, 0⟩), #[]⟩
noncomputable def ob600 (P : Params) : Obj := ⟨(.type "tuple"), none, (.seq #[] 0), #[]⟩
noncomputable def ob601 (P : Params) : Obj := ⟨.none, none, (.fields #[]), #[]⟩
noncomputable def ob602 (P : Params) : Obj := ⟨.none, none, (.func ⟨"_law_octets", "_law_octets", stP (stAt 84), .stmts (stB (stAt 84)), stS (stAt 84), 0, [], .none, .none, .none, .none, none, .none, .none, 0⟩), #[]⟩
noncomputable def ob603 (P : Params) : Obj := ⟨(.type "code"), none, (.fields #[(.str "_law_octets" 1026), (.str "_law_octets" 1027), (.str "/claim/cut.py" 1028), (.int 314 0), (.int 1 0), (.int 0 0), (.int 0 0), (.int 3 0), (.ref 600), (.bool true), (.int 181 0), (.ref 601), .none, .none, .none, (.ref 602), (.int 1029 0), (.int 314 0), (.str "/claim/cut.py" 1030)]), #[]⟩
noncomputable def ob604 (P : Params) : Obj := ⟨(.type "function"), none, (.func ⟨"_law_octets", "_law_octets", stP (stAt 84), .stmts (stB (stAt 84)), stS (stAt 84), 3, [], .none, .none, .none, (.str "law_pq0409_01" 970), none, (.ref 603), .none, 0⟩), #[]⟩
noncomputable def ob605 (P : Params) : Obj := ⟨(.type "tuple"), none, (.seq #[] 0), #[]⟩
noncomputable def ob606 (P : Params) : Obj := ⟨.none, none, (.fields #[]), #[]⟩
noncomputable def ob607 (P : Params) : Obj := ⟨(.type "tuple"), none, (.seq #[(.str "sum_here" 1035), (.str "bits" 1036), (.str "turn" 1037)] 0), #[]⟩
noncomputable def ob608 (P : Params) : Obj := ⟨(.type "tuple"), none, (.seq #[] 0), #[]⟩
noncomputable def ob609 (P : Params) : Obj := ⟨.none, none, (.func ⟨"_law_bits", "_law_bits", stP (stAt 85), .stmts (stB (stAt 85)), stS (stAt 85), 0, [], .none, .none, .none, .none, none, .none, .none, 0⟩), #[]⟩
noncomputable def ob610 (P : Params) : Obj := ⟨(.type "code"), none, (.fields #[(.str "_law_bits" 1032), (.str "_law_bits" 1033), (.str "/claim/cut.py" 1034), (.int 317 0), (.int 1 0), (.int 0 0), (.int 0 0), (.int 3 0), (.ref 605), (.bool true), (.int 181 0), (.ref 606), .none, (.ref 607), (.ref 608), (.ref 609), (.int 1038 0), (.int 317 0), (.str "/claim/cut.py" 1039)]), #[]⟩
noncomputable def ob611 (P : Params) : Obj := ⟨(.type "function"), none, (.func ⟨"_law_bits", "_law_bits", stP (stAt 85), .stmts (stB (stAt 85)), stS (stAt 85), 3, [], .none, .none, .none, (.str "law_pq0409_01" 970), none, (.ref 610), .none, 0⟩), #[]⟩
noncomputable def ob612 (P : Params) : Obj := ⟨(.type "tuple"), none, (.seq #[] 0), #[]⟩
noncomputable def ob613 (P : Params) : Obj := ⟨.none, none, (.fields #[]), #[]⟩
noncomputable def ob614 (P : Params) : Obj := ⟨(.type "tuple"), none, (.seq #[(.str "bits" 1044), (.str "sum_here" 1045), (.str "bit" 1046)] 0), #[]⟩
noncomputable def ob615 (P : Params) : Obj := ⟨(.type "tuple"), none, (.seq #[] 0), #[]⟩
noncomputable def ob616 (P : Params) : Obj := ⟨.none, none, (.func ⟨"_law_weight", "_law_weight", stP (stAt 86), .stmts (stB (stAt 86)), stS (stAt 86), 0, [], .none, .none, .none, .none, none, .none, .none, 0⟩), #[]⟩
noncomputable def ob617 (P : Params) : Obj := ⟨(.type "code"), none, (.fields #[(.str "_law_weight" 1041), (.str "_law_weight" 1042), (.str "/claim/cut.py" 1043), (.int 323 0), (.int 1 0), (.int 0 0), (.int 0 0), (.int 3 0), (.ref 612), (.bool true), (.int 181 0), (.ref 613), .none, (.ref 614), (.ref 615), (.ref 616), (.int 1047 0), (.int 323 0), (.str "/claim/cut.py" 1048)]), #[]⟩
noncomputable def ob618 (P : Params) : Obj := ⟨(.type "function"), none, (.func ⟨"_law_weight", "_law_weight", stP (stAt 86), .stmts (stB (stAt 86)), stS (stAt 86), 3, [], .none, .none, .none, (.str "law_pq0409_01" 970), none, (.ref 617), .none, 0⟩), #[]⟩
noncomputable def ob619 (P : Params) : Obj := ⟨(.type "tuple"), none, (.seq #[] 0), #[]⟩
noncomputable def ob620 (P : Params) : Obj := ⟨.none, none, (.fields #[]), #[]⟩
noncomputable def ob621 (P : Params) : Obj := ⟨(.type "tuple"), none, (.seq #[(.str "bits" 1053)] 0), #[]⟩
noncomputable def ob622 (P : Params) : Obj := ⟨(.type "tuple"), none, (.seq #[] 0), #[]⟩
noncomputable def ob623 (P : Params) : Obj := ⟨.none, none, (.func ⟨"_law_signed", "_law_signed", stP (stAt 87), .stmts (stB (stAt 87)), stS (stAt 87), 0, [], .none, .none, .none, .none, none, .none, .none, 0⟩), #[]⟩
noncomputable def ob624 (P : Params) : Obj := ⟨(.type "code"), none, (.fields #[(.str "_law_signed" 1050), (.str "_law_signed" 1051), (.str "/claim/cut.py" 1052), (.int 328 0), (.int 1 0), (.int 0 0), (.int 0 0), (.int 3 0), (.ref 619), (.bool true), (.int 181 0), (.ref 620), .none, (.ref 621), (.ref 622), (.ref 623), (.int 1054 0), (.int 328 0), (.str "/claim/cut.py" 1055)]), #[]⟩
noncomputable def ob625 (P : Params) : Obj := ⟨(.type "function"), none, (.func ⟨"_law_signed", "_law_signed", stP (stAt 87), .stmts (stB (stAt 87)), stS (stAt 87), 3, [], .none, .none, .none, (.str "law_pq0409_01" 970), none, (.ref 624), .none, 0⟩), #[]⟩
noncomputable def ob626 (P : Params) : Obj := ⟨(.type "tuple"), none, (.seq #[] 0), #[]⟩
noncomputable def ob627 (P : Params) : Obj := ⟨.none, none, (.fields #[]), #[]⟩
noncomputable def ob628 (P : Params) : Obj := ⟨(.type "tuple"), none, (.seq #[(.str "one" 1060), (.str "other" 1061), (.str "doubled" 1062), (.str "often_here" 1063), (.str "step" 1064)] 0), #[]⟩
noncomputable def ob629 (P : Params) : Obj := ⟨(.type "tuple"), none, (.seq #[] 0), #[]⟩
noncomputable def ob630 (P : Params) : Obj := ⟨.none, none, (.func ⟨"_law_parted", "_law_parted", stP (stAt 88), .stmts (stB (stAt 88)), stS (stAt 88), 0, [], .none, .none, .none, .none, none, .none, .none, 0⟩), #[]⟩
noncomputable def ob631 (P : Params) : Obj := ⟨(.type "code"), none, (.fields #[(.str "_law_parted" 1057), (.str "_law_parted" 1058), (.str "/claim/cut.py" 1059), (.int 330 0), (.int 2 0), (.int 0 0), (.int 0 0), (.int 3 0), (.ref 626), (.bool true), (.int 181 0), (.ref 627), .none, (.ref 628), (.ref 629), (.ref 630), (.int 1065 0), (.int 330 0), (.str "/claim/cut.py" 1066)]), #[]⟩
noncomputable def ob632 (P : Params) : Obj := ⟨(.type "function"), none, (.func ⟨"_law_parted", "_law_parted", stP (stAt 88), .stmts (stB (stAt 88)), stS (stAt 88), 3, [], .none, .none, .none, (.str "law_pq0409_01" 970), none, (.ref 631), .none, 0⟩), #[]⟩
noncomputable def ob633 (P : Params) : Obj := ⟨(.type "tuple"), none, (.seq #[] 0), #[]⟩
noncomputable def ob634 (P : Params) : Obj := ⟨.none, none, (.fields #[]), #[]⟩
noncomputable def ob635 (P : Params) : Obj := ⟨(.type "tuple"), none, (.seq #[(.str "one" 1071), (.str "other" 1072)] 0), #[]⟩
noncomputable def ob636 (P : Params) : Obj := ⟨(.type "tuple"), none, (.seq #[] 0), #[]⟩
noncomputable def ob637 (P : Params) : Obj := ⟨.none, none, (.func ⟨"_law_left", "_law_left", stP (stAt 89), .stmts (stB (stAt 89)), stS (stAt 89), 0, [], .none, .none, .none, .none, none, .none, .none, 0⟩), #[]⟩
noncomputable def ob638 (P : Params) : Obj := ⟨(.type "code"), none, (.fields #[(.str "_law_left" 1068), (.str "_law_left" 1069), (.str "/claim/cut.py" 1070), (.int 339 0), (.int 2 0), (.int 0 0), (.int 0 0), (.int 3 0), (.ref 633), (.bool true), (.int 181 0), (.ref 634), .none, (.ref 635), (.ref 636), (.ref 637), (.int 1073 0), (.int 339 0), (.str "/claim/cut.py" 1074)]), #[]⟩
noncomputable def ob639 (P : Params) : Obj := ⟨(.type "function"), none, (.func ⟨"_law_left", "_law_left", stP (stAt 89), .stmts (stB (stAt 89)), stS (stAt 89), 3, [], .none, .none, .none, (.str "law_pq0409_01" 970), none, (.ref 638), .none, 0⟩), #[]⟩
noncomputable def ob640 (P : Params) : Obj := ⟨(.type "tuple"), none, (.seq #[] 0), #[]⟩
noncomputable def ob641 (P : Params) : Obj := ⟨.none, none, (.fields #[]), #[]⟩
noncomputable def ob642 (P : Params) : Obj := ⟨(.type "tuple"), none, (.seq #[(.str "sum_here" 1079), (.str "lack" 1080)] 0), #[]⟩
noncomputable def ob643 (P : Params) : Obj := ⟨(.type "tuple"), none, (.seq #[] 0), #[]⟩
noncomputable def ob644 (P : Params) : Obj := ⟨.none, none, (.func ⟨"_law_led", "_law_led", stP (stAt 90), .stmts (stB (stAt 90)), stS (stAt 90), 0, [], .none, .none, .none, .none, none, .none, .none, 0⟩), #[]⟩
noncomputable def ob645 (P : Params) : Obj := ⟨(.type "code"), none, (.fields #[(.str "_law_led" 1076), (.str "_law_led" 1077), (.str "/claim/cut.py" 1078), (.int 341 0), (.int 1 0), (.int 0 0), (.int 0 0), (.int 3 0), (.ref 640), (.bool true), (.int 181 0), (.ref 641), .none, (.ref 642), (.ref 643), (.ref 644), (.int 1081 0), (.int 341 0), (.str "/claim/cut.py" 1082)]), #[]⟩
noncomputable def ob646 (P : Params) : Obj := ⟨(.type "function"), none, (.func ⟨"_law_led", "_law_led", stP (stAt 90), .stmts (stB (stAt 90)), stS (stAt 90), 3, [], .none, .none, .none, (.str "law_pq0409_01" 970), none, (.ref 645), .none, 0⟩), #[]⟩
noncomputable def ob647 (P : Params) : Obj := ⟨(.type "tuple"), none, (.seq #[] 0), #[]⟩
noncomputable def ob648 (P : Params) : Obj := ⟨.none, none, (.fields #[]), #[]⟩
noncomputable def ob649 (P : Params) : Obj := ⟨(.type "tuple"), none, (.seq #[(.str "a" 1087), (.str "b" 1088), (.str "digits" 1089), (.str "found" 1090), (.str "digit" 1091)] 0), #[]⟩
noncomputable def ob650 (P : Params) : Obj := ⟨(.type "tuple"), none, (.seq #[] 0), #[]⟩
noncomputable def ob651 (P : Params) : Obj := ⟨.none, none, (.func ⟨"_law_power", "_law_power", stP (stAt 91), .stmts (stB (stAt 91)), stS (stAt 91), 0, [], .none, .none, .none, .none, none, .none, .none, 0⟩), #[]⟩
noncomputable def ob652 (P : Params) : Obj := ⟨(.type "code"), none, (.fields #[(.str "_law_power" 1084), (.str "_law_power" 1085), (.str "/claim/cut.py" 1086), (.int 346 0), (.int 2 0), (.int 0 0), (.int 0 0), (.int 3 0), (.ref 647), (.bool true), (.int 181 0), (.ref 648), .none, (.ref 649), (.ref 650), (.ref 651), (.int 1092 0), (.int 346 0), (.str "/claim/cut.py" 1093)]), #[]⟩
noncomputable def ob653 (P : Params) : Obj := ⟨(.type "function"), none, (.func ⟨"_law_power", "_law_power", stP (stAt 91), .stmts (stB (stAt 91)), stS (stAt 91), 3, [], .none, .none, .none, (.str "law_pq0409_01" 970), none, (.ref 652), .none, 0⟩), #[]⟩
noncomputable def ob654 (P : Params) : Obj := ⟨(.type "tuple"), none, (.seq #[] 0), #[]⟩
noncomputable def ob655 (P : Params) : Obj := ⟨.none, none, (.fields #[]), #[]⟩
noncomputable def ob656 (P : Params) : Obj := ⟨(.type "tuple"), none, (.seq #[(.str "a" 1098), (.str "b" 1099), (.str "one" 1100), (.str "other" 1101), (.str "often_here" 1102), (.str "lack_here" 1103), (.str "is_turned" 1104)] 0), #[]⟩
noncomputable def ob657 (P : Params) : Obj := ⟨(.type "tuple"), none, (.seq #[] 0), #[]⟩
noncomputable def ob658 (P : Params) : Obj := ⟨.none, none, (.func ⟨"_law_signed_parts", "_law_signed_parts", stP (stAt 92), .stmts (stB (stAt 92)), stS (stAt 92), 0, [], .none, .none, .none, .none, none, .none, .none, 0⟩), #[]⟩
noncomputable def ob659 (P : Params) : Obj := ⟨(.type "code"), none, (.fields #[(.str "_law_signed_parts" 1095), (.str "_law_signed_parts" 1096), (.str "/claim/cut.py" 1097), (.int 354 0), (.int 2 0), (.int 0 0), (.int 0 0), (.int 3 0), (.ref 654), (.bool true), (.int 181 0), (.ref 655), .none, (.ref 656), (.ref 657), (.ref 658), (.int 1105 0), (.int 354 0), (.str "/claim/cut.py" 1106)]), #[]⟩
noncomputable def ob660 (P : Params) : Obj := ⟨(.type "function"), none, (.func ⟨"_law_signed_parts", "_law_signed_parts", stP (stAt 92), .stmts (stB (stAt 92)), stS (stAt 92), 3, [], .none, .none, .none, (.str "law_pq0409_01" 970), none, (.ref 659), .none, 0⟩), #[]⟩
noncomputable def ob661 (P : Params) : Obj := ⟨(.type "tuple"), none, (.seq #[] 0), #[]⟩
noncomputable def ob662 (P : Params) : Obj := ⟨.none, none, (.fields #[]), #[]⟩
noncomputable def ob663 (P : Params) : Obj := ⟨.none, none, (.func ⟨"_law_digits", "_law_digits", stP (stAt 93), .stmts (stB (stAt 93)), stS (stAt 93), 0, [], .none, .none, .none, .none, none, .none, .none, 0⟩), #[]⟩
noncomputable def ob664 (P : Params) : Obj := ⟨(.type "code"), none, (.fields #[(.str "_law_digits" 1108), (.str "_law_digits" 1109), (.str "/claim/cut.py" 1110), (.int 361 0), (.int 1 0), (.int 0 0), (.int 0 0), (.int 3 0), (.ref 661), (.bool true), (.int 181 0), (.ref 662), .none, .none, .none, (.ref 663), (.int 1111 0), (.int 361 0), (.str "/claim/cut.py" 1112)]), #[]⟩
noncomputable def ob665 (P : Params) : Obj := ⟨(.type "function"), none, (.func ⟨"_law_digits", "_law_digits", stP (stAt 93), .stmts (stB (stAt 93)), stS (stAt 93), 3, [], .none, .none, .none, (.str "law_pq0409_01" 970), none, (.ref 664), .none, 0⟩), #[]⟩
noncomputable def ob666 (P : Params) : Obj := ⟨(.type "tuple"), none, (.seq #[] 0), #[]⟩
noncomputable def ob667 (P : Params) : Obj := ⟨.none, none, (.fields #[]), #[]⟩
noncomputable def ob668 (P : Params) : Obj := ⟨(.type "tuple"), none, (.seq #[(.str "by" 1117), (.str "bits" 1118), (.str "far" 1119), (.str "up" 1120), (.str "down" 1121)] 0), #[]⟩
noncomputable def ob669 (P : Params) : Obj := ⟨(.type "tuple"), none, (.seq #[] 0), #[]⟩
noncomputable def ob670 (P : Params) : Obj := ⟨.none, none, (.func ⟨"_law_moved", "_law_moved", stP (stAt 94), .stmts (stB (stAt 94)), stS (stAt 94), 0, [], .none, .none, .none, .none, none, .none, .none, 0⟩), #[]⟩
noncomputable def ob671 (P : Params) : Obj := ⟨(.type "code"), none, (.fields #[(.str "_law_moved" 1114), (.str "_law_moved" 1115), (.str "/claim/cut.py" 1116), (.int 363 0), (.int 2 0), (.int 0 0), (.int 0 0), (.int 3 0), (.ref 666), (.bool true), (.int 181 0), (.ref 667), .none, (.ref 668), (.ref 669), (.ref 670), (.int 1122 0), (.int 363 0), (.str "/claim/cut.py" 1123)]), #[]⟩
noncomputable def ob672 (P : Params) : Obj := ⟨(.type "function"), none, (.func ⟨"_law_moved", "_law_moved", stP (stAt 94), .stmts (stB (stAt 94)), stS (stAt 94), 3, [], .none, .none, .none, (.str "law_pq0409_01" 970), none, (.ref 671), .none, 0⟩), #[]⟩
noncomputable def ob673 (P : Params) : Obj := ⟨(.type "tuple"), none, (.seq #[] 0), #[]⟩
noncomputable def ob674 (P : Params) : Obj := ⟨.none, none, (.fields #[]), #[]⟩
noncomputable def ob675 (P : Params) : Obj := ⟨(.type "tuple"), none, (.seq #[(.str "place" 1128), (.str "bits" 1129), (.str "bits_held" 1130)] 0), #[]⟩
noncomputable def ob676 (P : Params) : Obj := ⟨(.type "tuple"), none, (.seq #[] 0), #[]⟩
noncomputable def ob677 (P : Params) : Obj := ⟨.none, none, (.func ⟨"_law_widened", "_law_widened", stP (stAt 95), .stmts (stB (stAt 95)), stS (stAt 95), 0, [], .none, .none, .none, .none, none, .none, .none, 0⟩), #[]⟩
noncomputable def ob678 (P : Params) : Obj := ⟨(.type "code"), none, (.fields #[(.str "_law_widened" 1125), (.str "_law_widened" 1126), (.str "/claim/cut.py" 1127), (.int 367 0), (.int 2 0), (.int 0 0), (.int 0 0), (.int 3 0), (.ref 673), (.bool true), (.int 181 0), (.ref 674), .none, (.ref 675), (.ref 676), (.ref 677), (.int 1131 0), (.int 367 0), (.str "/claim/cut.py" 1132)]), #[]⟩
noncomputable def ob679 (P : Params) : Obj := ⟨(.type "function"), none, (.func ⟨"_law_widened", "_law_widened", stP (stAt 95), .stmts (stB (stAt 95)), stS (stAt 95), 3, [], .none, .none, .none, (.str "law_pq0409_01" 970), none, (.ref 678), .none, 0⟩), #[]⟩
noncomputable def ob680 (P : Params) : Obj := ⟨(.type "tuple"), none, (.seq #[] 0), #[]⟩
noncomputable def ob681 (P : Params) : Obj := ⟨.none, none, (.fields #[]), #[]⟩
noncomputable def ob682 (P : Params) : Obj := ⟨(.type "tuple"), none, (.seq #[(.str "a" 1137), (.str "bits" 1138), (.str "place" 1139), (.str "sum_here" 1140), (.str "octets" 1141), (.str "octet_row" 1142), (.str "sum_told" 1143), (.str "octet" 1144)] 0), #[]⟩
noncomputable def ob683 (P : Params) : Obj := ⟨(.type "tuple"), none, (.seq #[] 0), #[]⟩
noncomputable def ob684 (P : Params) : Obj := ⟨.none, none, (.func ⟨"_law_is_read_right", "_law_is_read_right", stP (stAt 96), .stmts (stB (stAt 96)), stS (stAt 96), 0, [], .none, .none, .none, .none, none, .none, .none, 0⟩), #[]⟩
noncomputable def ob685 (P : Params) : Obj := ⟨(.type "code"), none, (.fields #[(.str "_law_is_read_right" 1134), (.str "_law_is_read_right" 1135), (.str "/claim/cut.py" 1136), (.int 370 0), (.int 5 0), (.int 0 0), (.int 0 0), (.int 3 0), (.ref 680), (.bool true), (.int 181 0), (.ref 681), .none, (.ref 682), (.ref 683), (.ref 684), (.int 1145 0), (.int 370 0), (.str "/claim/cut.py" 1146)]), #[]⟩
noncomputable def ob686 (P : Params) : Obj := ⟨(.type "function"), none, (.func ⟨"_law_is_read_right", "_law_is_read_right", stP (stAt 96), .stmts (stB (stAt 96)), stS (stAt 96), 3, [], .none, .none, .none, (.str "law_pq0409_01" 970), none, (.ref 685), .none, 0⟩), #[]⟩
noncomputable def ob687 (P : Params) : Obj := ⟨(.type "tuple"), none, (.seq #[] 0), #[]⟩
noncomputable def ob688 (P : Params) : Obj := ⟨.none, none, (.fields #[]), #[]⟩
noncomputable def ob689 (P : Params) : Obj := ⟨.none, none, (.func ⟨"_law_rows", "_law_rows", stP (stAt 97), .stmts (stB (stAt 97)), stS (stAt 97), 0, [], .none, .none, .none, .none, none, .none, .none, 0⟩), #[]⟩
noncomputable def ob690 (P : Params) : Obj := ⟨(.type "code"), none, (.fields #[(.str "_law_rows" 1148), (.str "_law_rows" 1149), (.str "/claim/cut.py" 1150), (.int 379 0), (.int 5 0), (.int 0 0), (.int 0 0), (.int 3 0), (.ref 687), (.bool true), (.int 181 0), (.ref 688), .none, .none, .none, (.ref 689), (.int 1151 0), (.int 379 0), (.str "/claim/cut.py" 1152)]), #[]⟩
noncomputable def ob691 (P : Params) : Obj := ⟨(.type "function"), none, (.func ⟨"_law_rows", "_law_rows", stP (stAt 97), .stmts (stB (stAt 97)), stS (stAt 97), 3, [], .none, .none, .none, (.str "law_pq0409_01" 970), none, (.ref 690), .none, 0⟩), #[]⟩
noncomputable def ob692 (P : Params) : Obj := ⟨(.type "tuple"), none, (.seq #[] 0), #[]⟩
noncomputable def ob693 (P : Params) : Obj := ⟨.none, none, (.fields #[]), #[]⟩
noncomputable def ob694 (P : Params) : Obj := ⟨(.type "tuple"), none, (.seq #[(.str "words_here" 1157), (.str "gas" 1158), (.str "frame" 1159)] 0), #[]⟩
noncomputable def ob695 (P : Params) : Obj := ⟨(.type "tuple"), none, (.seq #[] 0), #[]⟩
noncomputable def ob696 (P : Params) : Obj := ⟨.none, none, (.func ⟨"_law_frame", "_law_frame", stP (stAt 98), .stmts (stB (stAt 98)), stS (stAt 98), 0, [], .none, .none, .none, .none, none, .none, .none, 0⟩), #[]⟩
noncomputable def ob697 (P : Params) : Obj := ⟨(.type "code"), none, (.fields #[(.str "_law_frame" 1154), (.str "_law_frame" 1155), (.str "/claim/cut.py" 1156), (.int 394 0), (.int 2 0), (.int 0 0), (.int 0 0), (.int 3 0), (.ref 692), (.bool true), (.int 181 0), (.ref 693), .none, (.ref 694), (.ref 695), (.ref 696), (.int 1160 0), (.int 394 0), (.str "/claim/cut.py" 1161)]), #[]⟩
noncomputable def ob698 (P : Params) : Obj := ⟨(.type "function"), none, (.func ⟨"_law_frame", "_law_frame", stP (stAt 98), .stmts (stB (stAt 98)), stS (stAt 98), 3, [], .none, .none, .none, (.str "law_pq0409_01" 970), none, (.ref 697), .none, 0⟩), #[]⟩
noncomputable def ob699 (P : Params) : Obj := ⟨(.type "tuple"), none, (.seq #[] 0), #[]⟩
noncomputable def ob700 (P : Params) : Obj := ⟨.none, none, (.fields #[]), #[]⟩
noncomputable def ob701 (P : Params) : Obj := ⟨(.type "tuple"), none, (.seq #[(.str "step" 1166), (.str "words_here" 1167), (.str "gas" 1168)] 0), #[]⟩
noncomputable def ob702 (P : Params) : Obj := ⟨(.type "tuple"), none, (.seq #[] 0), #[]⟩
noncomputable def ob703 (P : Params) : Obj := ⟨.none, none, (.func ⟨"_law_lacks_gas", "_law_lacks_gas", stP (stAt 99), .stmts (stB (stAt 99)), stS (stAt 99), 0, [], .none, .none, .none, .none, none, .none, .none, 0⟩), #[]⟩
noncomputable def ob704 (P : Params) : Obj := ⟨(.type "code"), none, (.fields #[(.str "_law_lacks_gas" 1163), (.str "_law_lacks_gas" 1164), (.str "/claim/cut.py" 1165), (.int 398 0), (.int 3 0), (.int 0 0), (.int 0 0), (.int 3 0), (.ref 699), (.bool true), (.int 181 0), (.ref 700), .none, (.ref 701), (.ref 702), (.ref 703), (.int 1169 0), (.int 398 0), (.str "/claim/cut.py" 1170)]), #[]⟩
noncomputable def ob705 (P : Params) : Obj := ⟨(.type "function"), none, (.func ⟨"_law_lacks_gas", "_law_lacks_gas", stP (stAt 99), .stmts (stB (stAt 99)), stS (stAt 99), 3, [], .none, .none, .none, (.str "law_pq0409_01" 970), none, (.ref 704), .none, 0⟩), #[]⟩
noncomputable def ob706 (P : Params) : Obj := ⟨(.type "tuple"), none, (.seq #[] 0), #[]⟩
noncomputable def ob707 (P : Params) : Obj := ⟨.none, none, (.fields #[]), #[]⟩
noncomputable def ob708 (P : Params) : Obj := ⟨(.type "tuple"), none, (.seq #[(.str "name" 1175), (.str "words_here" 1176), (.str "due" 1177), (.str "exponent_octets" 1178), (.str "step" 1179), (.str "cost" 1180), (.str "frame" 1181)] 0), #[]⟩
noncomputable def ob709 (P : Params) : Obj := ⟨(.type "tuple"), none, (.seq #[] 0), #[]⟩
noncomputable def ob710 (P : Params) : Obj := ⟨.none, none, (.func ⟨"_law_is_stepped_right", "_law_is_stepped_right", stP (stAt 100), .stmts (stB (stAt 100)), stS (stAt 100), 0, [], .none, .none, .none, .none, none, .none, .none, 0⟩), #[]⟩
noncomputable def ob711 (P : Params) : Obj := ⟨(.type "code"), none, (.fields #[(.str "_law_is_stepped_right" 1172), (.str "_law_is_stepped_right" 1173), (.str "/claim/cut.py" 1174), (.int 404 0), (.int 4 0), (.int 0 0), (.int 0 0), (.int 3 0), (.ref 706), (.bool true), (.int 181 0), (.ref 707), .none, (.ref 708), (.ref 709), (.ref 710), (.int 1182 0), (.int 404 0), (.str "/claim/cut.py" 1183)]), #[]⟩
noncomputable def ob712 (P : Params) : Obj := ⟨(.type "function"), none, (.func ⟨"_law_is_stepped_right", "_law_is_stepped_right", stP (stAt 100), .stmts (stB (stAt 100)), stS (stAt 100), 3, [], .none, .none, .none, (.str "law_pq0409_01" 970), none, (.ref 711), .none, 0⟩), #[]⟩
noncomputable def ob713 (P : Params) : Obj := ⟨(.type "tuple"), none, (.seq #[] 0), #[]⟩
noncomputable def ob714 (P : Params) : Obj := ⟨.none, none, (.fields #[]), #[]⟩
noncomputable def ob715 (P : Params) : Obj := ⟨.none, none, (.func ⟨"law", "law", stP (stAt 101), .stmts (stB (stAt 101)), stS (stAt 101), 0, [], .none, .none, .none, .none, none, .none, .none, 0⟩), #[]⟩
noncomputable def ob716 (P : Params) : Obj := ⟨(.type "code"), none, (.fields #[(.str "law" 1185), (.str "law" 1186), (.str "/claim/cut.py" 1187), (.int 411 0), (.int 1 0), (.int 0 0), (.int 0 0), (.int 3 0), (.ref 713), (.bool true), (.int 181 0), (.ref 714), .none, .none, .none, (.ref 715), (.int 1188 0), (.int 411 0), (.str "/claim/cut.py" 1189)]), #[]⟩
noncomputable def ob717 (P : Params) : Obj := ⟨(.type "function"), none, (.func ⟨"law", "law", stP (stAt 101), .stmts (stB (stAt 101)), stS (stAt 101), 3, [], .none, .none, .none, (.str "law_pq0409_01" 970), none, (.ref 716), .none, 0⟩), #[]⟩
noncomputable def oc0_2 (P : Params) : Obj := ⟨.none, none, (.dict #[] 0), #[]⟩
noncomputable def oc0_3 (P : Params) : Obj := ⟨(.type "dict"), none, (.dict #[en P "__name__" 165 (.str "__main__" 164), en P "__doc__" 166 .none, en P "__package__" 167 .none, en P "__loader__" 168 (.builtin "__main__.__loader__#opaque"), en P "__spec__" 169 .none, en P "__annotations__" 170 (.ref 6), en P "__builtins__" 171 (.ref 4), en P "__file__" 173 (.str "/claim/cut.py" 172), en P "__cached__" 174 .none] 9), #[]⟩
noncomputable def oc0_12 (P : Params) : Obj := ⟨.none, none, (.fields #[]), #[]⟩
noncomputable def tree0 (P : Params) : BT := (.node (ob0 P) (.node (ob1 P) (.node (oc0_3 P) (.node (ob7 P) .nil .nil) (.node (ob11 P) .nil .nil)) (.node (ob5 P) (.node (ob9 P) .nil .nil) (.node (ob13 P) .nil .nil))) (.node (oc0_2 P) (.node (ob4 P) (.node (ob8 P) .nil .nil) (.node (oc0_12 P) .nil .nil)) (.node (ob6 P) (.node (ob10 P) .nil .nil) (.node (ob14 P) .nil .nil))))
noncomputable def oc1_3 (P : Params) : Obj := ⟨(.type "dict"), none, (.dict #[en P "__name__" 165 (.str "gasledger.memory" 461), en P "__doc__" 166 .none, en P "__package__" 167 .none, en P "__loader__" 168 (.builtin "__main__.__loader__#opaque"), en P "__spec__" 169 .none, en P "__annotations__" 170 (.ref 6), en P "__builtins__" 171 (.ref 4), en P "__file__" 173 (.str "/claim/cut.py" 172), en P "__cached__" 174 .none, en P "_wall" 193 (.ref 21), en P "WORD" 199 (.int 115792089237316195423570985008687907853269984665640564039457584007913129639936 198), en P "HALF" 203 (.int 57896044618658097711785492504343953926634992332820282019728792003956564819968 202), en P "ADDRESSES" 207 (.int 1461501637330902918203684832716283019655932542976 206), en P "OCTETS" 209 (.int 32 208), en P "led" 216 (.ref 28), en P "with_sign" 223 (.ref 35), en P "word_octets" 230 (.ref 42), en P "octets_word" 237 (.ref 49), en P "address_of" 244 (.ref 56), en P "quotient" 252 (.ref 63), en P "rest" 260 (.ref 70), en P "signed_quotient" 271 (.ref 77), en P "signed_rest" 282 (.ref 84), en P "power" 293 (.ref 91), en P "sum_mod" 302 (.ref 98), en P "product_mod" 311 (.ref 105), en P "octet_at" 319 (.ref 112), en P "shifted_left" 327 (.ref 119), en P "shifted_right" 335 (.ref 126), en P "shifted_signed" 343 (.ref 133), en P "widened" 353 (.ref 140), en P "MachineFault" 384 (.ref 157), en P "Halt" 400 (.ref 170), en P "push_size" 409 (.ref 179), en P "JUMPDEST" 413 (.int 91 412), en P "jump_places" 422 (.ref 186), en P "EXP_OCTET" 426 (.int 50 425), en P "HASH_WORD" 428 (.int 6 427), en P "MEMORY_WORD" 430 (.int 3 429), en P "MEMORY_SQUARE" 432 (.int 512 431), en P "words_of" 439 (.ref 193), en P "memory_cost" 446 (.ref 200), en P "exp_cost" 453 (.ref 207), en P "hash_cost" 460 (.ref 214), en P "MOST_WORDS" 466 (.int 131072 465), en P "Memory" 558 (.ref 280)] 46), #[]⟩
noncomputable def oc1_12 (P : Params) : Obj := ⟨.none, none, (.fields #[(.int 1 0), (.int 0 0), (.ref 20), (.int 9 0), (.int 0 0), (.ref 27), (.int 11 0), (.int 0 0), (.ref 34), (.int 13 0), (.int 0 0), (.ref 41), (.int 15 0), (.int 0 0), (.ref 48), (.int 17 0), (.int 0 0), (.ref 55), (.int 19 0), (.int 0 0), (.ref 62), (.int 21 0), (.int 0 0), (.ref 69), (.int 23 0), (.int 0 0), (.ref 76), (.int 29 0), (.int 0 0), (.ref 83), (.int 35 0), (.int 0 0), (.ref 90), (.int 43 0), (.int 0 0), (.ref 97), (.int 45 0), (.int 0 0), (.ref 104), (.int 47 0), (.int 0 0), (.ref 111), (.int 49 0), (.int 0 0), (.ref 118), (.int 51 0), (.int 0 0), (.ref 125), (.int 53 0), (.int 0 0), (.ref 132), (.int 55 0), (.int 0 0), (.ref 139), (.int 62 0), (.int 0 0), (.ref 146), (.int 67 0), (.int 0 0), (.ref 166), (.int 70 0), (.int 0 0), (.ref 178), (.int 74 0), (.int 0 0), (.ref 185), (.int 86 0), (.int 0 0), (.ref 192), (.int 88 0), (.int 0 0), (.ref 199), (.int 90 0), (.int 0 0), (.ref 206), (.int 92 0), (.int 0 0), (.ref 213), (.int 96 0), (.int 0 0), (.ref 220)]), #[]⟩
noncomputable def tree1 (P : Params) : BT := (.node (ob0 P) (.node (ob1 P) (.node (oc1_3 P) (.node (ob7 P) (.node (ob15 P) (.node (ob31 P) (.node (ob63 P) (.node (ob127 P) (.node (ob255 P) .nil .nil) .nil) (.node (ob191 P) .nil .nil)) (.node (ob95 P) (.node (ob159 P) .nil .nil) (.node (ob223 P) .nil .nil))) (.node (ob47 P) (.node (ob79 P) (.node (ob143 P) (.node (ob271 P) .nil .nil) .nil) (.node (ob207 P) .nil .nil)) (.node (ob111 P) (.node (ob175 P) .nil .nil) (.node (ob239 P) .nil .nil)))) (.node (ob23 P) (.node (ob39 P) (.node (ob71 P) (.node (ob135 P) (.node (ob263 P) .nil .nil) .nil) (.node (ob199 P) .nil .nil)) (.node (ob103 P) (.node (ob167 P) .nil .nil) (.node (ob231 P) .nil .nil))) (.node (ob55 P) (.node (ob87 P) (.node (ob151 P) (.node (ob279 P) .nil .nil) .nil) (.node (ob215 P) .nil .nil)) (.node (ob119 P) (.node (ob183 P) .nil .nil) (.node (ob247 P) .nil .nil))))) (.node (ob11 P) (.node (ob19 P) (.node (ob35 P) (.node (ob67 P) (.node (ob131 P) (.node (ob259 P) .nil .nil) .nil) (.node (ob195 P) .nil .nil)) (.node (ob99 P) (.node (ob163 P) .nil .nil) (.node (ob227 P) .nil .nil))) (.node (ob51 P) (.node (ob83 P) (.node (ob147 P) (.node (ob275 P) .nil .nil) .nil) (.node (ob211 P) .nil .nil)) (.node (ob115 P) (.node (ob179 P) .nil .nil) (.node (ob243 P) .nil .nil)))) (.node (ob27 P) (.node (ob43 P) (.node (ob75 P) (.node (ob139 P) (.node (ob267 P) .nil .nil) .nil) (.node (ob203 P) .nil .nil)) (.node (ob107 P) (.node (ob171 P) .nil .nil) (.node (ob235 P) .nil .nil))) (.node (ob59 P) (.node (ob91 P) (.node (ob155 P) (.node (ob283 P) .nil .nil) .nil) (.node (ob219 P) .nil .nil)) (.node (ob123 P) (.node (ob187 P) .nil .nil) (.node (ob251 P) .nil .nil)))))) (.node (ob5 P) (.node (ob9 P) (.node (ob17 P) (.node (ob33 P) (.node (ob65 P) (.node (ob129 P) (.node (ob257 P) .nil .nil) .nil) (.node (ob193 P) .nil .nil)) (.node (ob97 P) (.node (ob161 P) .nil .nil) (.node (ob225 P) .nil .nil))) (.node (ob49 P) (.node (ob81 P) (.node (ob145 P) (.node (ob273 P) .nil .nil) .nil) (.node (ob209 P) .nil .nil)) (.node (ob113 P) (.node (ob177 P) .nil .nil) (.node (ob241 P) .nil .nil)))) (.node (ob25 P) (.node (ob41 P) (.node (ob73 P) (.node (ob137 P) (.node (ob265 P) .nil .nil) .nil) (.node (ob201 P) .nil .nil)) (.node (ob105 P) (.node (ob169 P) .nil .nil) (.node (ob233 P) .nil .nil))) (.node (ob57 P) (.node (ob89 P) (.node (ob153 P) (.node (ob281 P) .nil .nil) .nil) (.node (ob217 P) .nil .nil)) (.node (ob121 P) (.node (ob185 P) .nil .nil) (.node (ob249 P) .nil .nil))))) (.node (ob13 P) (.node (ob21 P) (.node (ob37 P) (.node (ob69 P) (.node (ob133 P) (.node (ob261 P) .nil .nil) .nil) (.node (ob197 P) .nil .nil)) (.node (ob101 P) (.node (ob165 P) .nil .nil) (.node (ob229 P) .nil .nil))) (.node (ob53 P) (.node (ob85 P) (.node (ob149 P) (.node (ob277 P) .nil .nil) .nil) (.node (ob213 P) .nil .nil)) (.node (ob117 P) (.node (ob181 P) .nil .nil) (.node (ob245 P) .nil .nil)))) (.node (ob29 P) (.node (ob45 P) (.node (ob77 P) (.node (ob141 P) (.node (ob269 P) .nil .nil) .nil) (.node (ob205 P) .nil .nil)) (.node (ob109 P) (.node (ob173 P) .nil .nil) (.node (ob237 P) .nil .nil))) (.node (ob61 P) (.node (ob93 P) (.node (ob157 P) .nil .nil) (.node (ob221 P) .nil .nil)) (.node (ob125 P) (.node (ob189 P) .nil .nil) (.node (ob253 P) .nil .nil))))))) (.node (ob2 P) (.node (ob4 P) (.node (ob8 P) (.node (ob16 P) (.node (ob32 P) (.node (ob64 P) (.node (ob128 P) (.node (ob256 P) .nil .nil) .nil) (.node (ob192 P) .nil .nil)) (.node (ob96 P) (.node (ob160 P) .nil .nil) (.node (ob224 P) .nil .nil))) (.node (ob48 P) (.node (ob80 P) (.node (ob144 P) (.node (ob272 P) .nil .nil) .nil) (.node (ob208 P) .nil .nil)) (.node (ob112 P) (.node (ob176 P) .nil .nil) (.node (ob240 P) .nil .nil)))) (.node (ob24 P) (.node (ob40 P) (.node (ob72 P) (.node (ob136 P) (.node (ob264 P) .nil .nil) .nil) (.node (ob200 P) .nil .nil)) (.node (ob104 P) (.node (ob168 P) .nil .nil) (.node (ob232 P) .nil .nil))) (.node (ob56 P) (.node (ob88 P) (.node (ob152 P) (.node (ob280 P) .nil .nil) .nil) (.node (ob216 P) .nil .nil)) (.node (ob120 P) (.node (ob184 P) .nil .nil) (.node (ob248 P) .nil .nil))))) (.node (oc1_12 P) (.node (ob20 P) (.node (ob36 P) (.node (ob68 P) (.node (ob132 P) (.node (ob260 P) .nil .nil) .nil) (.node (ob196 P) .nil .nil)) (.node (ob100 P) (.node (ob164 P) .nil .nil) (.node (ob228 P) .nil .nil))) (.node (ob52 P) (.node (ob84 P) (.node (ob148 P) (.node (ob276 P) .nil .nil) .nil) (.node (ob212 P) .nil .nil)) (.node (ob116 P) (.node (ob180 P) .nil .nil) (.node (ob244 P) .nil .nil)))) (.node (ob28 P) (.node (ob44 P) (.node (ob76 P) (.node (ob140 P) (.node (ob268 P) .nil .nil) .nil) (.node (ob204 P) .nil .nil)) (.node (ob108 P) (.node (ob172 P) .nil .nil) (.node (ob236 P) .nil .nil))) (.node (ob60 P) (.node (ob92 P) (.node (ob156 P) (.node (ob284 P) .nil .nil) .nil) (.node (ob220 P) .nil .nil)) (.node (ob124 P) (.node (ob188 P) .nil .nil) (.node (ob252 P) .nil .nil)))))) (.node (ob6 P) (.node (ob10 P) (.node (ob18 P) (.node (ob34 P) (.node (ob66 P) (.node (ob130 P) (.node (ob258 P) .nil .nil) .nil) (.node (ob194 P) .nil .nil)) (.node (ob98 P) (.node (ob162 P) .nil .nil) (.node (ob226 P) .nil .nil))) (.node (ob50 P) (.node (ob82 P) (.node (ob146 P) (.node (ob274 P) .nil .nil) .nil) (.node (ob210 P) .nil .nil)) (.node (ob114 P) (.node (ob178 P) .nil .nil) (.node (ob242 P) .nil .nil)))) (.node (ob26 P) (.node (ob42 P) (.node (ob74 P) (.node (ob138 P) (.node (ob266 P) .nil .nil) .nil) (.node (ob202 P) .nil .nil)) (.node (ob106 P) (.node (ob170 P) .nil .nil) (.node (ob234 P) .nil .nil))) (.node (ob58 P) (.node (ob90 P) (.node (ob154 P) (.node (ob282 P) .nil .nil) .nil) (.node (ob218 P) .nil .nil)) (.node (ob122 P) (.node (ob186 P) .nil .nil) (.node (ob250 P) .nil .nil))))) (.node (ob14 P) (.node (ob22 P) (.node (ob38 P) (.node (ob70 P) (.node (ob134 P) (.node (ob262 P) .nil .nil) .nil) (.node (ob198 P) .nil .nil)) (.node (ob102 P) (.node (ob166 P) .nil .nil) (.node (ob230 P) .nil .nil))) (.node (ob54 P) (.node (ob86 P) (.node (ob150 P) (.node (ob278 P) .nil .nil) .nil) (.node (ob214 P) .nil .nil)) (.node (ob118 P) (.node (ob182 P) .nil .nil) (.node (ob246 P) .nil .nil)))) (.node (ob30 P) (.node (ob46 P) (.node (ob78 P) (.node (ob142 P) (.node (ob270 P) .nil .nil) .nil) (.node (ob206 P) .nil .nil)) (.node (ob110 P) (.node (ob174 P) .nil .nil) (.node (ob238 P) .nil .nil))) (.node (ob62 P) (.node (ob94 P) (.node (ob158 P) .nil .nil) (.node (ob222 P) .nil .nil)) (.node (ob126 P) (.node (ob190 P) .nil .nil) (.node (ob254 P) .nil .nil))))))))
noncomputable def oc2_3 (P : Params) : Obj := ⟨(.type "dict"), none, (.dict #[en P "__name__" 165 (.str "gasledger.opsarith" 704), en P "__doc__" 166 .none, en P "__package__" 167 .none, en P "__loader__" 168 (.builtin "__main__.__loader__#opaque"), en P "__spec__" 169 .none, en P "__annotations__" 170 (.ref 6), en P "__builtins__" 171 (.ref 4), en P "__file__" 173 (.str "/claim/cut.py" 172), en P "__cached__" 174 .none, en P "_wall" 193 (.ref 21), en P "WORD" 199 (.int 115792089237316195423570985008687907853269984665640564039457584007913129639936 198), en P "HALF" 203 (.int 57896044618658097711785492504343953926634992332820282019728792003956564819968 202), en P "ADDRESSES" 207 (.int 1461501637330902918203684832716283019655932542976 206), en P "OCTETS" 209 (.int 32 208), en P "led" 216 (.ref 28), en P "with_sign" 223 (.ref 35), en P "word_octets" 230 (.ref 42), en P "octets_word" 237 (.ref 49), en P "address_of" 244 (.ref 56), en P "quotient" 252 (.ref 63), en P "rest" 260 (.ref 70), en P "signed_quotient" 271 (.ref 77), en P "signed_rest" 282 (.ref 84), en P "power" 293 (.ref 91), en P "sum_mod" 302 (.ref 98), en P "product_mod" 311 (.ref 105), en P "octet_at" 319 (.ref 112), en P "shifted_left" 327 (.ref 119), en P "shifted_right" 335 (.ref 126), en P "shifted_signed" 343 (.ref 133), en P "widened" 353 (.ref 140), en P "MachineFault" 384 (.ref 157), en P "Halt" 400 (.ref 170), en P "push_size" 409 (.ref 179), en P "JUMPDEST" 413 (.int 91 412), en P "jump_places" 422 (.ref 186), en P "EXP_OCTET" 426 (.int 50 425), en P "HASH_WORD" 428 (.int 6 427), en P "MEMORY_WORD" 430 (.int 3 429), en P "MEMORY_SQUARE" 432 (.int 512 431), en P "words_of" 439 (.ref 193), en P "memory_cost" 446 (.ref 200), en P "exp_cost" 453 (.ref 207), en P "hash_cost" 460 (.ref 214), en P "MOST_WORDS" 466 (.int 131072 465), en P "Memory" 558 (.ref 280), en P "MOST_STACK" 562 (.int 1024 561), en P "Message" 611 (.ref 301), en P "Frame" 693 (.ref 357), en P "word_of" 703 (.ref 368), en P "op_add" 715 (.ref 375), en P "op_mul" 725 (.ref 382), en P "op_sub" 735 (.ref 389), en P "op_div" 745 (.ref 396), en P "op_sdiv" 755 (.ref 403), en P "op_mod" 765 (.ref 410), en P "op_smod" 775 (.ref 417), en P "op_addmod" 786 (.ref 424)] 58), #[]⟩
noncomputable def oc2_12 (P : Params) : Obj := ⟨.none, none, (.fields #[(.int 1 0), (.int 0 0), (.ref 20), (.int 9 0), (.int 0 0), (.ref 27), (.int 11 0), (.int 0 0), (.ref 34), (.int 13 0), (.int 0 0), (.ref 41), (.int 15 0), (.int 0 0), (.ref 48), (.int 17 0), (.int 0 0), (.ref 55), (.int 19 0), (.int 0 0), (.ref 62), (.int 21 0), (.int 0 0), (.ref 69), (.int 23 0), (.int 0 0), (.ref 76), (.int 29 0), (.int 0 0), (.ref 83), (.int 35 0), (.int 0 0), (.ref 90), (.int 43 0), (.int 0 0), (.ref 97), (.int 45 0), (.int 0 0), (.ref 104), (.int 47 0), (.int 0 0), (.ref 111), (.int 49 0), (.int 0 0), (.ref 118), (.int 51 0), (.int 0 0), (.ref 125), (.int 53 0), (.int 0 0), (.ref 132), (.int 55 0), (.int 0 0), (.ref 139), (.int 62 0), (.int 0 0), (.ref 146), (.int 67 0), (.int 0 0), (.ref 166), (.int 70 0), (.int 0 0), (.ref 178), (.int 74 0), (.int 0 0), (.ref 185), (.int 86 0), (.int 0 0), (.ref 192), (.int 88 0), (.int 0 0), (.ref 199), (.int 90 0), (.int 0 0), (.ref 206), (.int 92 0), (.int 0 0), (.ref 213), (.int 96 0), (.int 0 0), (.ref 220), (.int 136 0), (.int 0 0), (.ref 290), (.int 150 0), (.int 0 0), (.ref 311), (.int 188 0), (.int 0 0), (.ref 367), (.int 191 0), (.int 0 0), (.ref 374), (.int 194 0), (.int 0 0), (.ref 381), (.int 197 0), (.int 0 0), (.ref 388), (.int 200 0), (.int 0 0), (.ref 395), (.int 203 0), (.int 0 0), (.ref 402), (.int 206 0), (.int 0 0), (.ref 409), (.int 209 0), (.int 0 0), (.ref 416), (.int 212 0), (.int 0 0), (.ref 423)]), #[]⟩
noncomputable def tree2 (P : Params) : BT := (.node (ob0 P) (.node (ob1 P) (.node (oc2_3 P) (.node (ob7 P) (.node (ob15 P) (.node (ob31 P) (.node (ob63 P) (.node (ob127 P) (.node (ob255 P) .nil .nil) (.node (ob383 P) .nil .nil)) (.node (ob191 P) (.node (ob319 P) .nil .nil) .nil)) (.node (ob95 P) (.node (ob159 P) (.node (ob287 P) .nil .nil) (.node (ob415 P) .nil .nil)) (.node (ob223 P) (.node (ob351 P) .nil .nil) .nil))) (.node (ob47 P) (.node (ob79 P) (.node (ob143 P) (.node (ob271 P) .nil .nil) (.node (ob399 P) .nil .nil)) (.node (ob207 P) (.node (ob335 P) .nil .nil) .nil)) (.node (ob111 P) (.node (ob175 P) (.node (ob303 P) .nil .nil) .nil) (.node (ob239 P) (.node (ob367 P) .nil .nil) .nil)))) (.node (ob23 P) (.node (ob39 P) (.node (ob71 P) (.node (ob135 P) (.node (ob263 P) .nil .nil) (.node (ob391 P) .nil .nil)) (.node (ob199 P) (.node (ob327 P) .nil .nil) .nil)) (.node (ob103 P) (.node (ob167 P) (.node (ob295 P) .nil .nil) (.node (ob423 P) .nil .nil)) (.node (ob231 P) (.node (ob359 P) .nil .nil) .nil))) (.node (ob55 P) (.node (ob87 P) (.node (ob151 P) (.node (ob279 P) .nil .nil) (.node (ob407 P) .nil .nil)) (.node (ob215 P) (.node (ob343 P) .nil .nil) .nil)) (.node (ob119 P) (.node (ob183 P) (.node (ob311 P) .nil .nil) .nil) (.node (ob247 P) (.node (ob375 P) .nil .nil) .nil))))) (.node (ob11 P) (.node (ob19 P) (.node (ob35 P) (.node (ob67 P) (.node (ob131 P) (.node (ob259 P) .nil .nil) (.node (ob387 P) .nil .nil)) (.node (ob195 P) (.node (ob323 P) .nil .nil) .nil)) (.node (ob99 P) (.node (ob163 P) (.node (ob291 P) .nil .nil) (.node (ob419 P) .nil .nil)) (.node (ob227 P) (.node (ob355 P) .nil .nil) .nil))) (.node (ob51 P) (.node (ob83 P) (.node (ob147 P) (.node (ob275 P) .nil .nil) (.node (ob403 P) .nil .nil)) (.node (ob211 P) (.node (ob339 P) .nil .nil) .nil)) (.node (ob115 P) (.node (ob179 P) (.node (ob307 P) .nil .nil) .nil) (.node (ob243 P) (.node (ob371 P) .nil .nil) .nil)))) (.node (ob27 P) (.node (ob43 P) (.node (ob75 P) (.node (ob139 P) (.node (ob267 P) .nil .nil) (.node (ob395 P) .nil .nil)) (.node (ob203 P) (.node (ob331 P) .nil .nil) .nil)) (.node (ob107 P) (.node (ob171 P) (.node (ob299 P) .nil .nil) .nil) (.node (ob235 P) (.node (ob363 P) .nil .nil) .nil))) (.node (ob59 P) (.node (ob91 P) (.node (ob155 P) (.node (ob283 P) .nil .nil) (.node (ob411 P) .nil .nil)) (.node (ob219 P) (.node (ob347 P) .nil .nil) .nil)) (.node (ob123 P) (.node (ob187 P) (.node (ob315 P) .nil .nil) .nil) (.node (ob251 P) (.node (ob379 P) .nil .nil) .nil)))))) (.node (ob5 P) (.node (ob9 P) (.node (ob17 P) (.node (ob33 P) (.node (ob65 P) (.node (ob129 P) (.node (ob257 P) .nil .nil) (.node (ob385 P) .nil .nil)) (.node (ob193 P) (.node (ob321 P) .nil .nil) .nil)) (.node (ob97 P) (.node (ob161 P) (.node (ob289 P) .nil .nil) (.node (ob417 P) .nil .nil)) (.node (ob225 P) (.node (ob353 P) .nil .nil) .nil))) (.node (ob49 P) (.node (ob81 P) (.node (ob145 P) (.node (ob273 P) .nil .nil) (.node (ob401 P) .nil .nil)) (.node (ob209 P) (.node (ob337 P) .nil .nil) .nil)) (.node (ob113 P) (.node (ob177 P) (.node (ob305 P) .nil .nil) .nil) (.node (ob241 P) (.node (ob369 P) .nil .nil) .nil)))) (.node (ob25 P) (.node (ob41 P) (.node (ob73 P) (.node (ob137 P) (.node (ob265 P) .nil .nil) (.node (ob393 P) .nil .nil)) (.node (ob201 P) (.node (ob329 P) .nil .nil) .nil)) (.node (ob105 P) (.node (ob169 P) (.node (ob297 P) .nil .nil) .nil) (.node (ob233 P) (.node (ob361 P) .nil .nil) .nil))) (.node (ob57 P) (.node (ob89 P) (.node (ob153 P) (.node (ob281 P) .nil .nil) (.node (ob409 P) .nil .nil)) (.node (ob217 P) (.node (ob345 P) .nil .nil) .nil)) (.node (ob121 P) (.node (ob185 P) (.node (ob313 P) .nil .nil) .nil) (.node (ob249 P) (.node (ob377 P) .nil .nil) .nil))))) (.node (ob13 P) (.node (ob21 P) (.node (ob37 P) (.node (ob69 P) (.node (ob133 P) (.node (ob261 P) .nil .nil) (.node (ob389 P) .nil .nil)) (.node (ob197 P) (.node (ob325 P) .nil .nil) .nil)) (.node (ob101 P) (.node (ob165 P) (.node (ob293 P) .nil .nil) (.node (ob421 P) .nil .nil)) (.node (ob229 P) (.node (ob357 P) .nil .nil) .nil))) (.node (ob53 P) (.node (ob85 P) (.node (ob149 P) (.node (ob277 P) .nil .nil) (.node (ob405 P) .nil .nil)) (.node (ob213 P) (.node (ob341 P) .nil .nil) .nil)) (.node (ob117 P) (.node (ob181 P) (.node (ob309 P) .nil .nil) .nil) (.node (ob245 P) (.node (ob373 P) .nil .nil) .nil)))) (.node (ob29 P) (.node (ob45 P) (.node (ob77 P) (.node (ob141 P) (.node (ob269 P) .nil .nil) (.node (ob397 P) .nil .nil)) (.node (ob205 P) (.node (ob333 P) .nil .nil) .nil)) (.node (ob109 P) (.node (ob173 P) (.node (ob301 P) .nil .nil) .nil) (.node (ob237 P) (.node (ob365 P) .nil .nil) .nil))) (.node (ob61 P) (.node (ob93 P) (.node (ob157 P) (.node (ob285 P) .nil .nil) (.node (ob413 P) .nil .nil)) (.node (ob221 P) (.node (ob349 P) .nil .nil) .nil)) (.node (ob125 P) (.node (ob189 P) (.node (ob317 P) .nil .nil) .nil) (.node (ob253 P) (.node (ob381 P) .nil .nil) .nil))))))) (.node (ob2 P) (.node (ob4 P) (.node (ob8 P) (.node (ob16 P) (.node (ob32 P) (.node (ob64 P) (.node (ob128 P) (.node (ob256 P) .nil .nil) (.node (ob384 P) .nil .nil)) (.node (ob192 P) (.node (ob320 P) .nil .nil) .nil)) (.node (ob96 P) (.node (ob160 P) (.node (ob288 P) .nil .nil) (.node (ob416 P) .nil .nil)) (.node (ob224 P) (.node (ob352 P) .nil .nil) .nil))) (.node (ob48 P) (.node (ob80 P) (.node (ob144 P) (.node (ob272 P) .nil .nil) (.node (ob400 P) .nil .nil)) (.node (ob208 P) (.node (ob336 P) .nil .nil) .nil)) (.node (ob112 P) (.node (ob176 P) (.node (ob304 P) .nil .nil) .nil) (.node (ob240 P) (.node (ob368 P) .nil .nil) .nil)))) (.node (ob24 P) (.node (ob40 P) (.node (ob72 P) (.node (ob136 P) (.node (ob264 P) .nil .nil) (.node (ob392 P) .nil .nil)) (.node (ob200 P) (.node (ob328 P) .nil .nil) .nil)) (.node (ob104 P) (.node (ob168 P) (.node (ob296 P) .nil .nil) (.node (ob424 P) .nil .nil)) (.node (ob232 P) (.node (ob360 P) .nil .nil) .nil))) (.node (ob56 P) (.node (ob88 P) (.node (ob152 P) (.node (ob280 P) .nil .nil) (.node (ob408 P) .nil .nil)) (.node (ob216 P) (.node (ob344 P) .nil .nil) .nil)) (.node (ob120 P) (.node (ob184 P) (.node (ob312 P) .nil .nil) .nil) (.node (ob248 P) (.node (ob376 P) .nil .nil) .nil))))) (.node (oc2_12 P) (.node (ob20 P) (.node (ob36 P) (.node (ob68 P) (.node (ob132 P) (.node (ob260 P) .nil .nil) (.node (ob388 P) .nil .nil)) (.node (ob196 P) (.node (ob324 P) .nil .nil) .nil)) (.node (ob100 P) (.node (ob164 P) (.node (ob292 P) .nil .nil) (.node (ob420 P) .nil .nil)) (.node (ob228 P) (.node (ob356 P) .nil .nil) .nil))) (.node (ob52 P) (.node (ob84 P) (.node (ob148 P) (.node (ob276 P) .nil .nil) (.node (ob404 P) .nil .nil)) (.node (ob212 P) (.node (ob340 P) .nil .nil) .nil)) (.node (ob116 P) (.node (ob180 P) (.node (ob308 P) .nil .nil) .nil) (.node (ob244 P) (.node (ob372 P) .nil .nil) .nil)))) (.node (ob28 P) (.node (ob44 P) (.node (ob76 P) (.node (ob140 P) (.node (ob268 P) .nil .nil) (.node (ob396 P) .nil .nil)) (.node (ob204 P) (.node (ob332 P) .nil .nil) .nil)) (.node (ob108 P) (.node (ob172 P) (.node (ob300 P) .nil .nil) .nil) (.node (ob236 P) (.node (ob364 P) .nil .nil) .nil))) (.node (ob60 P) (.node (ob92 P) (.node (ob156 P) (.node (ob284 P) .nil .nil) (.node (ob412 P) .nil .nil)) (.node (ob220 P) (.node (ob348 P) .nil .nil) .nil)) (.node (ob124 P) (.node (ob188 P) (.node (ob316 P) .nil .nil) .nil) (.node (ob252 P) (.node (ob380 P) .nil .nil) .nil)))))) (.node (ob6 P) (.node (ob10 P) (.node (ob18 P) (.node (ob34 P) (.node (ob66 P) (.node (ob130 P) (.node (ob258 P) .nil .nil) (.node (ob386 P) .nil .nil)) (.node (ob194 P) (.node (ob322 P) .nil .nil) .nil)) (.node (ob98 P) (.node (ob162 P) (.node (ob290 P) .nil .nil) (.node (ob418 P) .nil .nil)) (.node (ob226 P) (.node (ob354 P) .nil .nil) .nil))) (.node (ob50 P) (.node (ob82 P) (.node (ob146 P) (.node (ob274 P) .nil .nil) (.node (ob402 P) .nil .nil)) (.node (ob210 P) (.node (ob338 P) .nil .nil) .nil)) (.node (ob114 P) (.node (ob178 P) (.node (ob306 P) .nil .nil) .nil) (.node (ob242 P) (.node (ob370 P) .nil .nil) .nil)))) (.node (ob26 P) (.node (ob42 P) (.node (ob74 P) (.node (ob138 P) (.node (ob266 P) .nil .nil) (.node (ob394 P) .nil .nil)) (.node (ob202 P) (.node (ob330 P) .nil .nil) .nil)) (.node (ob106 P) (.node (ob170 P) (.node (ob298 P) .nil .nil) .nil) (.node (ob234 P) (.node (ob362 P) .nil .nil) .nil))) (.node (ob58 P) (.node (ob90 P) (.node (ob154 P) (.node (ob282 P) .nil .nil) (.node (ob410 P) .nil .nil)) (.node (ob218 P) (.node (ob346 P) .nil .nil) .nil)) (.node (ob122 P) (.node (ob186 P) (.node (ob314 P) .nil .nil) .nil) (.node (ob250 P) (.node (ob378 P) .nil .nil) .nil))))) (.node (ob14 P) (.node (ob22 P) (.node (ob38 P) (.node (ob70 P) (.node (ob134 P) (.node (ob262 P) .nil .nil) (.node (ob390 P) .nil .nil)) (.node (ob198 P) (.node (ob326 P) .nil .nil) .nil)) (.node (ob102 P) (.node (ob166 P) (.node (ob294 P) .nil .nil) (.node (ob422 P) .nil .nil)) (.node (ob230 P) (.node (ob358 P) .nil .nil) .nil))) (.node (ob54 P) (.node (ob86 P) (.node (ob150 P) (.node (ob278 P) .nil .nil) (.node (ob406 P) .nil .nil)) (.node (ob214 P) (.node (ob342 P) .nil .nil) .nil)) (.node (ob118 P) (.node (ob182 P) (.node (ob310 P) .nil .nil) .nil) (.node (ob246 P) (.node (ob374 P) .nil .nil) .nil)))) (.node (ob30 P) (.node (ob46 P) (.node (ob78 P) (.node (ob142 P) (.node (ob270 P) .nil .nil) (.node (ob398 P) .nil .nil)) (.node (ob206 P) (.node (ob334 P) .nil .nil) .nil)) (.node (ob110 P) (.node (ob174 P) (.node (ob302 P) .nil .nil) .nil) (.node (ob238 P) (.node (ob366 P) .nil .nil) .nil))) (.node (ob62 P) (.node (ob94 P) (.node (ob158 P) (.node (ob286 P) .nil .nil) (.node (ob414 P) .nil .nil)) (.node (ob222 P) (.node (ob350 P) .nil .nil) .nil)) (.node (ob126 P) (.node (ob190 P) (.node (ob318 P) .nil .nil) .nil) (.node (ob254 P) (.node (ob382 P) .nil .nil) .nil))))))))
noncomputable def tree3 (P : Params) : BT := (.node (ob0 P) (.node (ob1 P) (.node (ob3 P) (.node (ob7 P) (.node (ob15 P) (.node (ob31 P) (.node (ob63 P) (.node (ob127 P) (.node (ob255 P) (.node (ob511 P) .nil .nil) .nil) (.node (ob383 P) (.node (ob639 P) .nil .nil) .nil)) (.node (ob191 P) (.node (ob319 P) (.node (ob575 P) .nil .nil) .nil) (.node (ob447 P) (.node (ob703 P) .nil .nil) .nil))) (.node (ob95 P) (.node (ob159 P) (.node (ob287 P) (.node (ob543 P) .nil .nil) .nil) (.node (ob415 P) (.node (ob671 P) .nil .nil) .nil)) (.node (ob223 P) (.node (ob351 P) (.node (ob607 P) .nil .nil) .nil) (.node (ob479 P) .nil .nil)))) (.node (ob47 P) (.node (ob79 P) (.node (ob143 P) (.node (ob271 P) (.node (ob527 P) .nil .nil) .nil) (.node (ob399 P) (.node (ob655 P) .nil .nil) .nil)) (.node (ob207 P) (.node (ob335 P) (.node (ob591 P) .nil .nil) .nil) (.node (ob463 P) .nil .nil))) (.node (ob111 P) (.node (ob175 P) (.node (ob303 P) (.node (ob559 P) .nil .nil) .nil) (.node (ob431 P) (.node (ob687 P) .nil .nil) .nil)) (.node (ob239 P) (.node (ob367 P) (.node (ob623 P) .nil .nil) .nil) (.node (ob495 P) .nil .nil))))) (.node (ob23 P) (.node (ob39 P) (.node (ob71 P) (.node (ob135 P) (.node (ob263 P) (.node (ob519 P) .nil .nil) .nil) (.node (ob391 P) (.node (ob647 P) .nil .nil) .nil)) (.node (ob199 P) (.node (ob327 P) (.node (ob583 P) .nil .nil) .nil) (.node (ob455 P) (.node (ob711 P) .nil .nil) .nil))) (.node (ob103 P) (.node (ob167 P) (.node (ob295 P) (.node (ob551 P) .nil .nil) .nil) (.node (ob423 P) (.node (ob679 P) .nil .nil) .nil)) (.node (ob231 P) (.node (ob359 P) (.node (ob615 P) .nil .nil) .nil) (.node (ob487 P) .nil .nil)))) (.node (ob55 P) (.node (ob87 P) (.node (ob151 P) (.node (ob279 P) (.node (ob535 P) .nil .nil) .nil) (.node (ob407 P) (.node (ob663 P) .nil .nil) .nil)) (.node (ob215 P) (.node (ob343 P) (.node (ob599 P) .nil .nil) .nil) (.node (ob471 P) .nil .nil))) (.node (ob119 P) (.node (ob183 P) (.node (ob311 P) (.node (ob567 P) .nil .nil) .nil) (.node (ob439 P) (.node (ob695 P) .nil .nil) .nil)) (.node (ob247 P) (.node (ob375 P) (.node (ob631 P) .nil .nil) .nil) (.node (ob503 P) .nil .nil)))))) (.node (ob11 P) (.node (ob19 P) (.node (ob35 P) (.node (ob67 P) (.node (ob131 P) (.node (ob259 P) (.node (ob515 P) .nil .nil) .nil) (.node (ob387 P) (.node (ob643 P) .nil .nil) .nil)) (.node (ob195 P) (.node (ob323 P) (.node (ob579 P) .nil .nil) .nil) (.node (ob451 P) (.node (ob707 P) .nil .nil) .nil))) (.node (ob99 P) (.node (ob163 P) (.node (ob291 P) (.node (ob547 P) .nil .nil) .nil) (.node (ob419 P) (.node (ob675 P) .nil .nil) .nil)) (.node (ob227 P) (.node (ob355 P) (.node (ob611 P) .nil .nil) .nil) (.node (ob483 P) .nil .nil)))) (.node (ob51 P) (.node (ob83 P) (.node (ob147 P) (.node (ob275 P) (.node (ob531 P) .nil .nil) .nil) (.node (ob403 P) (.node (ob659 P) .nil .nil) .nil)) (.node (ob211 P) (.node (ob339 P) (.node (ob595 P) .nil .nil) .nil) (.node (ob467 P) .nil .nil))) (.node (ob115 P) (.node (ob179 P) (.node (ob307 P) (.node (ob563 P) .nil .nil) .nil) (.node (ob435 P) (.node (ob691 P) .nil .nil) .nil)) (.node (ob243 P) (.node (ob371 P) (.node (ob627 P) .nil .nil) .nil) (.node (ob499 P) .nil .nil))))) (.node (ob27 P) (.node (ob43 P) (.node (ob75 P) (.node (ob139 P) (.node (ob267 P) (.node (ob523 P) .nil .nil) .nil) (.node (ob395 P) (.node (ob651 P) .nil .nil) .nil)) (.node (ob203 P) (.node (ob331 P) (.node (ob587 P) .nil .nil) .nil) (.node (ob459 P) (.node (ob715 P) .nil .nil) .nil))) (.node (ob107 P) (.node (ob171 P) (.node (ob299 P) (.node (ob555 P) .nil .nil) .nil) (.node (ob427 P) (.node (ob683 P) .nil .nil) .nil)) (.node (ob235 P) (.node (ob363 P) (.node (ob619 P) .nil .nil) .nil) (.node (ob491 P) .nil .nil)))) (.node (ob59 P) (.node (ob91 P) (.node (ob155 P) (.node (ob283 P) (.node (ob539 P) .nil .nil) .nil) (.node (ob411 P) (.node (ob667 P) .nil .nil) .nil)) (.node (ob219 P) (.node (ob347 P) (.node (ob603 P) .nil .nil) .nil) (.node (ob475 P) .nil .nil))) (.node (ob123 P) (.node (ob187 P) (.node (ob315 P) (.node (ob571 P) .nil .nil) .nil) (.node (ob443 P) (.node (ob699 P) .nil .nil) .nil)) (.node (ob251 P) (.node (ob379 P) (.node (ob635 P) .nil .nil) .nil) (.node (ob507 P) .nil .nil))))))) (.node (ob5 P) (.node (ob9 P) (.node (ob17 P) (.node (ob33 P) (.node (ob65 P) (.node (ob129 P) (.node (ob257 P) (.node (ob513 P) .nil .nil) .nil) (.node (ob385 P) (.node (ob641 P) .nil .nil) .nil)) (.node (ob193 P) (.node (ob321 P) (.node (ob577 P) .nil .nil) .nil) (.node (ob449 P) (.node (ob705 P) .nil .nil) .nil))) (.node (ob97 P) (.node (ob161 P) (.node (ob289 P) (.node (ob545 P) .nil .nil) .nil) (.node (ob417 P) (.node (ob673 P) .nil .nil) .nil)) (.node (ob225 P) (.node (ob353 P) (.node (ob609 P) .nil .nil) .nil) (.node (ob481 P) .nil .nil)))) (.node (ob49 P) (.node (ob81 P) (.node (ob145 P) (.node (ob273 P) (.node (ob529 P) .nil .nil) .nil) (.node (ob401 P) (.node (ob657 P) .nil .nil) .nil)) (.node (ob209 P) (.node (ob337 P) (.node (ob593 P) .nil .nil) .nil) (.node (ob465 P) .nil .nil))) (.node (ob113 P) (.node (ob177 P) (.node (ob305 P) (.node (ob561 P) .nil .nil) .nil) (.node (ob433 P) (.node (ob689 P) .nil .nil) .nil)) (.node (ob241 P) (.node (ob369 P) (.node (ob625 P) .nil .nil) .nil) (.node (ob497 P) .nil .nil))))) (.node (ob25 P) (.node (ob41 P) (.node (ob73 P) (.node (ob137 P) (.node (ob265 P) (.node (ob521 P) .nil .nil) .nil) (.node (ob393 P) (.node (ob649 P) .nil .nil) .nil)) (.node (ob201 P) (.node (ob329 P) (.node (ob585 P) .nil .nil) .nil) (.node (ob457 P) (.node (ob713 P) .nil .nil) .nil))) (.node (ob105 P) (.node (ob169 P) (.node (ob297 P) (.node (ob553 P) .nil .nil) .nil) (.node (ob425 P) (.node (ob681 P) .nil .nil) .nil)) (.node (ob233 P) (.node (ob361 P) (.node (ob617 P) .nil .nil) .nil) (.node (ob489 P) .nil .nil)))) (.node (ob57 P) (.node (ob89 P) (.node (ob153 P) (.node (ob281 P) (.node (ob537 P) .nil .nil) .nil) (.node (ob409 P) (.node (ob665 P) .nil .nil) .nil)) (.node (ob217 P) (.node (ob345 P) (.node (ob601 P) .nil .nil) .nil) (.node (ob473 P) .nil .nil))) (.node (ob121 P) (.node (ob185 P) (.node (ob313 P) (.node (ob569 P) .nil .nil) .nil) (.node (ob441 P) (.node (ob697 P) .nil .nil) .nil)) (.node (ob249 P) (.node (ob377 P) (.node (ob633 P) .nil .nil) .nil) (.node (ob505 P) .nil .nil)))))) (.node (ob13 P) (.node (ob21 P) (.node (ob37 P) (.node (ob69 P) (.node (ob133 P) (.node (ob261 P) (.node (ob517 P) .nil .nil) .nil) (.node (ob389 P) (.node (ob645 P) .nil .nil) .nil)) (.node (ob197 P) (.node (ob325 P) (.node (ob581 P) .nil .nil) .nil) (.node (ob453 P) (.node (ob709 P) .nil .nil) .nil))) (.node (ob101 P) (.node (ob165 P) (.node (ob293 P) (.node (ob549 P) .nil .nil) .nil) (.node (ob421 P) (.node (ob677 P) .nil .nil) .nil)) (.node (ob229 P) (.node (ob357 P) (.node (ob613 P) .nil .nil) .nil) (.node (ob485 P) .nil .nil)))) (.node (ob53 P) (.node (ob85 P) (.node (ob149 P) (.node (ob277 P) (.node (ob533 P) .nil .nil) .nil) (.node (ob405 P) (.node (ob661 P) .nil .nil) .nil)) (.node (ob213 P) (.node (ob341 P) (.node (ob597 P) .nil .nil) .nil) (.node (ob469 P) .nil .nil))) (.node (ob117 P) (.node (ob181 P) (.node (ob309 P) (.node (ob565 P) .nil .nil) .nil) (.node (ob437 P) (.node (ob693 P) .nil .nil) .nil)) (.node (ob245 P) (.node (ob373 P) (.node (ob629 P) .nil .nil) .nil) (.node (ob501 P) .nil .nil))))) (.node (ob29 P) (.node (ob45 P) (.node (ob77 P) (.node (ob141 P) (.node (ob269 P) (.node (ob525 P) .nil .nil) .nil) (.node (ob397 P) (.node (ob653 P) .nil .nil) .nil)) (.node (ob205 P) (.node (ob333 P) (.node (ob589 P) .nil .nil) .nil) (.node (ob461 P) (.node (ob717 P) .nil .nil) .nil))) (.node (ob109 P) (.node (ob173 P) (.node (ob301 P) (.node (ob557 P) .nil .nil) .nil) (.node (ob429 P) (.node (ob685 P) .nil .nil) .nil)) (.node (ob237 P) (.node (ob365 P) (.node (ob621 P) .nil .nil) .nil) (.node (ob493 P) .nil .nil)))) (.node (ob61 P) (.node (ob93 P) (.node (ob157 P) (.node (ob285 P) (.node (ob541 P) .nil .nil) .nil) (.node (ob413 P) (.node (ob669 P) .nil .nil) .nil)) (.node (ob221 P) (.node (ob349 P) (.node (ob605 P) .nil .nil) .nil) (.node (ob477 P) .nil .nil))) (.node (ob125 P) (.node (ob189 P) (.node (ob317 P) (.node (ob573 P) .nil .nil) .nil) (.node (ob445 P) (.node (ob701 P) .nil .nil) .nil)) (.node (ob253 P) (.node (ob381 P) (.node (ob637 P) .nil .nil) .nil) (.node (ob509 P) .nil .nil)))))))) (.node (ob2 P) (.node (ob4 P) (.node (ob8 P) (.node (ob16 P) (.node (ob32 P) (.node (ob64 P) (.node (ob128 P) (.node (ob256 P) (.node (ob512 P) .nil .nil) .nil) (.node (ob384 P) (.node (ob640 P) .nil .nil) .nil)) (.node (ob192 P) (.node (ob320 P) (.node (ob576 P) .nil .nil) .nil) (.node (ob448 P) (.node (ob704 P) .nil .nil) .nil))) (.node (ob96 P) (.node (ob160 P) (.node (ob288 P) (.node (ob544 P) .nil .nil) .nil) (.node (ob416 P) (.node (ob672 P) .nil .nil) .nil)) (.node (ob224 P) (.node (ob352 P) (.node (ob608 P) .nil .nil) .nil) (.node (ob480 P) .nil .nil)))) (.node (ob48 P) (.node (ob80 P) (.node (ob144 P) (.node (ob272 P) (.node (ob528 P) .nil .nil) .nil) (.node (ob400 P) (.node (ob656 P) .nil .nil) .nil)) (.node (ob208 P) (.node (ob336 P) (.node (ob592 P) .nil .nil) .nil) (.node (ob464 P) .nil .nil))) (.node (ob112 P) (.node (ob176 P) (.node (ob304 P) (.node (ob560 P) .nil .nil) .nil) (.node (ob432 P) (.node (ob688 P) .nil .nil) .nil)) (.node (ob240 P) (.node (ob368 P) (.node (ob624 P) .nil .nil) .nil) (.node (ob496 P) .nil .nil))))) (.node (ob24 P) (.node (ob40 P) (.node (ob72 P) (.node (ob136 P) (.node (ob264 P) (.node (ob520 P) .nil .nil) .nil) (.node (ob392 P) (.node (ob648 P) .nil .nil) .nil)) (.node (ob200 P) (.node (ob328 P) (.node (ob584 P) .nil .nil) .nil) (.node (ob456 P) (.node (ob712 P) .nil .nil) .nil))) (.node (ob104 P) (.node (ob168 P) (.node (ob296 P) (.node (ob552 P) .nil .nil) .nil) (.node (ob424 P) (.node (ob680 P) .nil .nil) .nil)) (.node (ob232 P) (.node (ob360 P) (.node (ob616 P) .nil .nil) .nil) (.node (ob488 P) .nil .nil)))) (.node (ob56 P) (.node (ob88 P) (.node (ob152 P) (.node (ob280 P) (.node (ob536 P) .nil .nil) .nil) (.node (ob408 P) (.node (ob664 P) .nil .nil) .nil)) (.node (ob216 P) (.node (ob344 P) (.node (ob600 P) .nil .nil) .nil) (.node (ob472 P) .nil .nil))) (.node (ob120 P) (.node (ob184 P) (.node (ob312 P) (.node (ob568 P) .nil .nil) .nil) (.node (ob440 P) (.node (ob696 P) .nil .nil) .nil)) (.node (ob248 P) (.node (ob376 P) (.node (ob632 P) .nil .nil) .nil) (.node (ob504 P) .nil .nil)))))) (.node (ob12 P) (.node (ob20 P) (.node (ob36 P) (.node (ob68 P) (.node (ob132 P) (.node (ob260 P) (.node (ob516 P) .nil .nil) .nil) (.node (ob388 P) (.node (ob644 P) .nil .nil) .nil)) (.node (ob196 P) (.node (ob324 P) (.node (ob580 P) .nil .nil) .nil) (.node (ob452 P) (.node (ob708 P) .nil .nil) .nil))) (.node (ob100 P) (.node (ob164 P) (.node (ob292 P) (.node (ob548 P) .nil .nil) .nil) (.node (ob420 P) (.node (ob676 P) .nil .nil) .nil)) (.node (ob228 P) (.node (ob356 P) (.node (ob612 P) .nil .nil) .nil) (.node (ob484 P) .nil .nil)))) (.node (ob52 P) (.node (ob84 P) (.node (ob148 P) (.node (ob276 P) (.node (ob532 P) .nil .nil) .nil) (.node (ob404 P) (.node (ob660 P) .nil .nil) .nil)) (.node (ob212 P) (.node (ob340 P) (.node (ob596 P) .nil .nil) .nil) (.node (ob468 P) .nil .nil))) (.node (ob116 P) (.node (ob180 P) (.node (ob308 P) (.node (ob564 P) .nil .nil) .nil) (.node (ob436 P) (.node (ob692 P) .nil .nil) .nil)) (.node (ob244 P) (.node (ob372 P) (.node (ob628 P) .nil .nil) .nil) (.node (ob500 P) .nil .nil))))) (.node (ob28 P) (.node (ob44 P) (.node (ob76 P) (.node (ob140 P) (.node (ob268 P) (.node (ob524 P) .nil .nil) .nil) (.node (ob396 P) (.node (ob652 P) .nil .nil) .nil)) (.node (ob204 P) (.node (ob332 P) (.node (ob588 P) .nil .nil) .nil) (.node (ob460 P) (.node (ob716 P) .nil .nil) .nil))) (.node (ob108 P) (.node (ob172 P) (.node (ob300 P) (.node (ob556 P) .nil .nil) .nil) (.node (ob428 P) (.node (ob684 P) .nil .nil) .nil)) (.node (ob236 P) (.node (ob364 P) (.node (ob620 P) .nil .nil) .nil) (.node (ob492 P) .nil .nil)))) (.node (ob60 P) (.node (ob92 P) (.node (ob156 P) (.node (ob284 P) (.node (ob540 P) .nil .nil) .nil) (.node (ob412 P) (.node (ob668 P) .nil .nil) .nil)) (.node (ob220 P) (.node (ob348 P) (.node (ob604 P) .nil .nil) .nil) (.node (ob476 P) .nil .nil))) (.node (ob124 P) (.node (ob188 P) (.node (ob316 P) (.node (ob572 P) .nil .nil) .nil) (.node (ob444 P) (.node (ob700 P) .nil .nil) .nil)) (.node (ob252 P) (.node (ob380 P) (.node (ob636 P) .nil .nil) .nil) (.node (ob508 P) .nil .nil))))))) (.node (ob6 P) (.node (ob10 P) (.node (ob18 P) (.node (ob34 P) (.node (ob66 P) (.node (ob130 P) (.node (ob258 P) (.node (ob514 P) .nil .nil) .nil) (.node (ob386 P) (.node (ob642 P) .nil .nil) .nil)) (.node (ob194 P) (.node (ob322 P) (.node (ob578 P) .nil .nil) .nil) (.node (ob450 P) (.node (ob706 P) .nil .nil) .nil))) (.node (ob98 P) (.node (ob162 P) (.node (ob290 P) (.node (ob546 P) .nil .nil) .nil) (.node (ob418 P) (.node (ob674 P) .nil .nil) .nil)) (.node (ob226 P) (.node (ob354 P) (.node (ob610 P) .nil .nil) .nil) (.node (ob482 P) .nil .nil)))) (.node (ob50 P) (.node (ob82 P) (.node (ob146 P) (.node (ob274 P) (.node (ob530 P) .nil .nil) .nil) (.node (ob402 P) (.node (ob658 P) .nil .nil) .nil)) (.node (ob210 P) (.node (ob338 P) (.node (ob594 P) .nil .nil) .nil) (.node (ob466 P) .nil .nil))) (.node (ob114 P) (.node (ob178 P) (.node (ob306 P) (.node (ob562 P) .nil .nil) .nil) (.node (ob434 P) (.node (ob690 P) .nil .nil) .nil)) (.node (ob242 P) (.node (ob370 P) (.node (ob626 P) .nil .nil) .nil) (.node (ob498 P) .nil .nil))))) (.node (ob26 P) (.node (ob42 P) (.node (ob74 P) (.node (ob138 P) (.node (ob266 P) (.node (ob522 P) .nil .nil) .nil) (.node (ob394 P) (.node (ob650 P) .nil .nil) .nil)) (.node (ob202 P) (.node (ob330 P) (.node (ob586 P) .nil .nil) .nil) (.node (ob458 P) (.node (ob714 P) .nil .nil) .nil))) (.node (ob106 P) (.node (ob170 P) (.node (ob298 P) (.node (ob554 P) .nil .nil) .nil) (.node (ob426 P) (.node (ob682 P) .nil .nil) .nil)) (.node (ob234 P) (.node (ob362 P) (.node (ob618 P) .nil .nil) .nil) (.node (ob490 P) .nil .nil)))) (.node (ob58 P) (.node (ob90 P) (.node (ob154 P) (.node (ob282 P) (.node (ob538 P) .nil .nil) .nil) (.node (ob410 P) (.node (ob666 P) .nil .nil) .nil)) (.node (ob218 P) (.node (ob346 P) (.node (ob602 P) .nil .nil) .nil) (.node (ob474 P) .nil .nil))) (.node (ob122 P) (.node (ob186 P) (.node (ob314 P) (.node (ob570 P) .nil .nil) .nil) (.node (ob442 P) (.node (ob698 P) .nil .nil) .nil)) (.node (ob250 P) (.node (ob378 P) (.node (ob634 P) .nil .nil) .nil) (.node (ob506 P) .nil .nil)))))) (.node (ob14 P) (.node (ob22 P) (.node (ob38 P) (.node (ob70 P) (.node (ob134 P) (.node (ob262 P) (.node (ob518 P) .nil .nil) .nil) (.node (ob390 P) (.node (ob646 P) .nil .nil) .nil)) (.node (ob198 P) (.node (ob326 P) (.node (ob582 P) .nil .nil) .nil) (.node (ob454 P) (.node (ob710 P) .nil .nil) .nil))) (.node (ob102 P) (.node (ob166 P) (.node (ob294 P) (.node (ob550 P) .nil .nil) .nil) (.node (ob422 P) (.node (ob678 P) .nil .nil) .nil)) (.node (ob230 P) (.node (ob358 P) (.node (ob614 P) .nil .nil) .nil) (.node (ob486 P) .nil .nil)))) (.node (ob54 P) (.node (ob86 P) (.node (ob150 P) (.node (ob278 P) (.node (ob534 P) .nil .nil) .nil) (.node (ob406 P) (.node (ob662 P) .nil .nil) .nil)) (.node (ob214 P) (.node (ob342 P) (.node (ob598 P) .nil .nil) .nil) (.node (ob470 P) .nil .nil))) (.node (ob118 P) (.node (ob182 P) (.node (ob310 P) (.node (ob566 P) .nil .nil) .nil) (.node (ob438 P) (.node (ob694 P) .nil .nil) .nil)) (.node (ob246 P) (.node (ob374 P) (.node (ob630 P) .nil .nil) .nil) (.node (ob502 P) .nil .nil))))) (.node (ob30 P) (.node (ob46 P) (.node (ob78 P) (.node (ob142 P) (.node (ob270 P) (.node (ob526 P) .nil .nil) .nil) (.node (ob398 P) (.node (ob654 P) .nil .nil) .nil)) (.node (ob206 P) (.node (ob334 P) (.node (ob590 P) .nil .nil) .nil) (.node (ob462 P) .nil .nil))) (.node (ob110 P) (.node (ob174 P) (.node (ob302 P) (.node (ob558 P) .nil .nil) .nil) (.node (ob430 P) (.node (ob686 P) .nil .nil) .nil)) (.node (ob238 P) (.node (ob366 P) (.node (ob622 P) .nil .nil) .nil) (.node (ob494 P) .nil .nil)))) (.node (ob62 P) (.node (ob94 P) (.node (ob158 P) (.node (ob286 P) (.node (ob542 P) .nil .nil) .nil) (.node (ob414 P) (.node (ob670 P) .nil .nil) .nil)) (.node (ob222 P) (.node (ob350 P) (.node (ob606 P) .nil .nil) .nil) (.node (ob478 P) .nil .nil))) (.node (ob126 P) (.node (ob190 P) (.node (ob318 P) (.node (ob574 P) .nil .nil) .nil) (.node (ob446 P) (.node (ob702 P) .nil .nil) .nil)) (.node (ob254 P) (.node (ob382 P) (.node (ob638 P) .nil .nil) .nil) (.node (ob510 P) .nil .nil)))))))))
noncomputable def heapF (P : Params) : Heap := ⟨#[ob0 P, ob1 P, ob2 P, ob3 P, ob4 P, ob5 P, ob6 P, ob7 P, ob8 P, ob9 P, ob10 P, ob11 P, ob12 P, ob13 P, ob14 P, ob15 P, ob16 P, ob17 P, ob18 P, ob19 P, ob20 P, ob21 P, ob22 P, ob23 P, ob24 P, ob25 P, ob26 P, ob27 P, ob28 P, ob29 P, ob30 P, ob31 P, ob32 P, ob33 P, ob34 P, ob35 P, ob36 P, ob37 P, ob38 P, ob39 P, ob40 P, ob41 P, ob42 P, ob43 P, ob44 P, ob45 P, ob46 P, ob47 P, ob48 P, ob49 P, ob50 P, ob51 P, ob52 P, ob53 P, ob54 P, ob55 P, ob56 P, ob57 P, ob58 P, ob59 P, ob60 P, ob61 P, ob62 P, ob63 P, ob64 P, ob65 P, ob66 P, ob67 P, ob68 P, ob69 P, ob70 P, ob71 P, ob72 P, ob73 P, ob74 P, ob75 P, ob76 P, ob77 P, ob78 P, ob79 P, ob80 P, ob81 P, ob82 P, ob83 P, ob84 P, ob85 P, ob86 P, ob87 P, ob88 P, ob89 P, ob90 P, ob91 P, ob92 P, ob93 P, ob94 P, ob95 P, ob96 P, ob97 P, ob98 P, ob99 P, ob100 P, ob101 P, ob102 P, ob103 P, ob104 P, ob105 P, ob106 P, ob107 P, ob108 P, ob109 P, ob110 P, ob111 P, ob112 P, ob113 P, ob114 P, ob115 P, ob116 P, ob117 P, ob118 P, ob119 P, ob120 P, ob121 P, ob122 P, ob123 P, ob124 P, ob125 P, ob126 P, ob127 P, ob128 P, ob129 P, ob130 P, ob131 P, ob132 P, ob133 P, ob134 P, ob135 P, ob136 P, ob137 P, ob138 P, ob139 P, ob140 P, ob141 P, ob142 P, ob143 P, ob144 P, ob145 P, ob146 P, ob147 P, ob148 P, ob149 P, ob150 P, ob151 P, ob152 P, ob153 P, ob154 P, ob155 P, ob156 P, ob157 P, ob158 P, ob159 P, ob160 P, ob161 P, ob162 P, ob163 P, ob164 P, ob165 P, ob166 P, ob167 P, ob168 P, ob169 P, ob170 P, ob171 P, ob172 P, ob173 P, ob174 P, ob175 P, ob176 P, ob177 P, ob178 P, ob179 P, ob180 P, ob181 P, ob182 P, ob183 P, ob184 P, ob185 P, ob186 P, ob187 P, ob188 P, ob189 P, ob190 P, ob191 P, ob192 P, ob193 P, ob194 P, ob195 P, ob196 P, ob197 P, ob198 P, ob199 P, ob200 P, ob201 P, ob202 P, ob203 P, ob204 P, ob205 P, ob206 P, ob207 P, ob208 P, ob209 P, ob210 P, ob211 P, ob212 P, ob213 P, ob214 P, ob215 P, ob216 P, ob217 P, ob218 P, ob219 P, ob220 P, ob221 P, ob222 P, ob223 P, ob224 P, ob225 P, ob226 P, ob227 P, ob228 P, ob229 P, ob230 P, ob231 P, ob232 P, ob233 P, ob234 P, ob235 P, ob236 P, ob237 P, ob238 P, ob239 P, ob240 P, ob241 P, ob242 P, ob243 P, ob244 P, ob245 P, ob246 P, ob247 P, ob248 P, ob249 P, ob250 P, ob251 P, ob252 P, ob253 P, ob254 P, ob255 P, ob256 P, ob257 P, ob258 P, ob259 P, ob260 P, ob261 P, ob262 P, ob263 P, ob264 P, ob265 P, ob266 P, ob267 P, ob268 P, ob269 P, ob270 P, ob271 P, ob272 P, ob273 P, ob274 P, ob275 P, ob276 P, ob277 P, ob278 P, ob279 P, ob280 P, ob281 P, ob282 P, ob283 P, ob284 P, ob285 P, ob286 P, ob287 P, ob288 P, ob289 P, ob290 P, ob291 P, ob292 P, ob293 P, ob294 P, ob295 P, ob296 P, ob297 P, ob298 P, ob299 P, ob300 P, ob301 P, ob302 P, ob303 P, ob304 P, ob305 P, ob306 P, ob307 P, ob308 P, ob309 P, ob310 P, ob311 P, ob312 P, ob313 P, ob314 P, ob315 P, ob316 P, ob317 P, ob318 P, ob319 P, ob320 P, ob321 P, ob322 P, ob323 P, ob324 P, ob325 P, ob326 P, ob327 P, ob328 P, ob329 P, ob330 P, ob331 P, ob332 P, ob333 P, ob334 P, ob335 P, ob336 P, ob337 P, ob338 P, ob339 P, ob340 P, ob341 P, ob342 P, ob343 P, ob344 P, ob345 P, ob346 P, ob347 P, ob348 P, ob349 P, ob350 P, ob351 P, ob352 P, ob353 P, ob354 P, ob355 P, ob356 P, ob357 P, ob358 P, ob359 P, ob360 P, ob361 P, ob362 P, ob363 P, ob364 P, ob365 P, ob366 P, ob367 P, ob368 P, ob369 P, ob370 P, ob371 P, ob372 P, ob373 P, ob374 P, ob375 P, ob376 P, ob377 P, ob378 P, ob379 P, ob380 P, ob381 P, ob382 P, ob383 P, ob384 P, ob385 P, ob386 P, ob387 P, ob388 P, ob389 P, ob390 P, ob391 P, ob392 P, ob393 P, ob394 P, ob395 P, ob396 P, ob397 P, ob398 P, ob399 P, ob400 P, ob401 P, ob402 P, ob403 P, ob404 P, ob405 P, ob406 P, ob407 P, ob408 P, ob409 P, ob410 P, ob411 P, ob412 P, ob413 P, ob414 P, ob415 P, ob416 P, ob417 P, ob418 P, ob419 P, ob420 P, ob421 P, ob422 P, ob423 P, ob424 P, ob425 P, ob426 P, ob427 P, ob428 P, ob429 P, ob430 P, ob431 P, ob432 P, ob433 P, ob434 P, ob435 P, ob436 P, ob437 P, ob438 P, ob439 P, ob440 P, ob441 P, ob442 P, ob443 P, ob444 P, ob445 P, ob446 P, ob447 P, ob448 P, ob449 P, ob450 P, ob451 P, ob452 P, ob453 P, ob454 P, ob455 P, ob456 P, ob457 P, ob458 P, ob459 P, ob460 P, ob461 P, ob462 P, ob463 P, ob464 P, ob465 P, ob466 P, ob467 P, ob468 P, ob469 P, ob470 P, ob471 P, ob472 P, ob473 P, ob474 P, ob475 P, ob476 P, ob477 P, ob478 P, ob479 P, ob480 P, ob481 P, ob482 P, ob483 P, ob484 P, ob485 P, ob486 P, ob487 P, ob488 P, ob489 P, ob490 P, ob491 P, ob492 P, ob493 P, ob494 P, ob495 P, ob496 P, ob497 P, ob498 P, ob499 P, ob500 P, ob501 P, ob502 P, ob503 P, ob504 P, ob505 P, ob506 P, ob507 P, ob508 P, ob509 P, ob510 P, ob511 P, ob512 P, ob513 P, ob514 P, ob515 P, ob516 P, ob517 P, ob518 P, ob519 P, ob520 P, ob521 P, ob522 P, ob523 P, ob524 P, ob525 P, ob526 P, ob527 P, ob528 P, ob529 P, ob530 P, ob531 P, ob532 P, ob533 P, ob534 P, ob535 P, ob536 P, ob537 P, ob538 P, ob539 P, ob540 P, ob541 P, ob542 P, ob543 P, ob544 P, ob545 P, ob546 P, ob547 P, ob548 P, ob549 P, ob550 P, ob551 P, ob552 P, ob553 P, ob554 P, ob555 P, ob556 P, ob557 P, ob558 P, ob559 P, ob560 P, ob561 P, ob562 P, ob563 P, ob564 P, ob565 P, ob566 P, ob567 P, ob568 P, ob569 P, ob570 P, ob571 P, ob572 P, ob573 P, ob574 P, ob575 P, ob576 P, ob577 P, ob578 P, ob579 P, ob580 P, ob581 P, ob582 P, ob583 P, ob584 P, ob585 P, ob586 P, ob587 P, ob588 P, ob589 P, ob590 P, ob591 P, ob592 P, ob593 P, ob594 P, ob595 P, ob596 P, ob597 P, ob598 P, ob599 P, ob600 P, ob601 P, ob602 P, ob603 P, ob604 P, ob605 P, ob606 P, ob607 P, ob608 P, ob609 P, ob610 P, ob611 P, ob612 P, ob613 P, ob614 P, ob615 P, ob616 P, ob617 P, ob618 P, ob619 P, ob620 P, ob621 P, ob622 P, ob623 P, ob624 P, ob625 P, ob626 P, ob627 P, ob628 P, ob629 P, ob630 P, ob631 P, ob632 P, ob633 P, ob634 P, ob635 P, ob636 P, ob637 P, ob638 P, ob639 P, ob640 P, ob641 P, ob642 P, ob643 P, ob644 P, ob645 P, ob646 P, ob647 P, ob648 P, ob649 P, ob650 P, ob651 P, ob652 P, ob653 P, ob654 P, ob655 P, ob656 P, ob657 P, ob658 P, ob659 P, ob660 P, ob661 P, ob662 P, ob663 P, ob664 P, ob665 P, ob666 P, ob667 P, ob668 P, ob669 P, ob670 P, ob671 P, ob672 P, ob673 P, ob674 P, ob675 P, ob676 P, ob677 P, ob678 P, ob679 P, ob680 P, ob681 P, ob682 P, ob683 P, ob684 P, ob685 P, ob686 P, ob687 P, ob688 P, ob689 P, ob690 P, ob691 P, ob692 P, ob693 P, ob694 P, ob695 P, ob696 P, ob697 P, ob698 P, ob699 P, ob700 P, ob701 P, ob702 P, ob703 P, ob704 P, ob705 P, ob706 P, ob707 P, ob708 P, ob709 P, ob710 P, ob711 P, ob712 P, ob713 P, ob714 P, ob715 P, ob716 P, ob717 P], {}⟩
noncomputable def hd.heap_39 (P : Params) : Frag := (nat_lit 2, ob2 P) :: (nat_lit 3, ob3 P) :: (nat_lit 15, ob15 P) :: (nat_lit 17, ob17 P) :: (nat_lit 18, ob18 P) :: (nat_lit 20, ob20 P) :: (nat_lit 21, ob21 P) :: (nat_lit 22, ob22 P) :: (nat_lit 24, ob24 P) :: (nat_lit 25, ob25 P) :: (nat_lit 27, ob27 P) :: (nat_lit 28, ob28 P) :: (nat_lit 29, ob29 P) :: (nat_lit 31, ob31 P) :: (nat_lit 32, ob32 P) :: (nat_lit 34, ob34 P) :: (nat_lit 35, ob35 P) :: (nat_lit 36, ob36 P) :: (nat_lit 38, ob38 P) :: (nat_lit 39, ob39 P) :: (nat_lit 41, ob41 P) :: (nat_lit 42, ob42 P) :: (nat_lit 43, ob43 P) :: (nat_lit 45, ob45 P) :: (nat_lit 46, ob46 P) :: (nat_lit 48, ob48 P) :: (nat_lit 49, ob49 P) :: (nat_lit 50, ob50 P) :: (nat_lit 52, ob52 P) :: (nat_lit 53, ob53 P) :: (nat_lit 55, ob55 P) :: (nat_lit 56, ob56 P) :: (nat_lit 57, ob57 P) :: (nat_lit 59, ob59 P) :: (nat_lit 60, ob60 P) :: (nat_lit 62, ob62 P) :: (nat_lit 63, ob63 P) :: (nat_lit 64, ob64 P) :: (nat_lit 66, ob66 P) :: (nat_lit 67, ob67 P) :: (nat_lit 69, ob69 P) :: (nat_lit 70, ob70 P) :: (nat_lit 71, ob71 P) :: (nat_lit 73, ob73 P) :: (nat_lit 74, ob74 P) :: (nat_lit 76, ob76 P) :: (nat_lit 77, ob77 P) :: (nat_lit 78, ob78 P) :: (nat_lit 80, ob80 P) :: (nat_lit 81, ob81 P) :: (nat_lit 83, ob83 P) :: (nat_lit 84, ob84 P) :: (nat_lit 85, ob85 P) :: (nat_lit 87, ob87 P) :: (nat_lit 88, ob88 P) :: (nat_lit 90, ob90 P) :: (nat_lit 91, ob91 P) :: (nat_lit 92, ob92 P) :: (nat_lit 94, ob94 P) :: (nat_lit 95, ob95 P) :: (nat_lit 97, ob97 P) :: (nat_lit 98, ob98 P) :: (nat_lit 99, ob99 P) :: (nat_lit 101, ob101 P) :: (nat_lit 102, ob102 P) :: (nat_lit 104, ob104 P) :: (nat_lit 105, ob105 P) :: (nat_lit 106, ob106 P) :: (nat_lit 108, ob108 P) :: (nat_lit 109, ob109 P) :: (nat_lit 111, ob111 P) :: (nat_lit 112, ob112 P) :: (nat_lit 113, ob113 P) :: (nat_lit 115, ob115 P) :: (nat_lit 116, ob116 P) :: (nat_lit 118, ob118 P) :: (nat_lit 119, ob119 P) :: (nat_lit 120, ob120 P) :: (nat_lit 122, ob122 P) :: (nat_lit 123, ob123 P) :: (nat_lit 125, ob125 P) :: (nat_lit 126, ob126 P) :: (nat_lit 127, ob127 P) :: (nat_lit 129, ob129 P) :: (nat_lit 130, ob130 P) :: (nat_lit 132, ob132 P) :: (nat_lit 133, ob133 P) :: (nat_lit 134, ob134 P) :: (nat_lit 136, ob136 P) :: (nat_lit 137, ob137 P) :: (nat_lit 139, ob139 P) :: (nat_lit 140, ob140 P) :: (nat_lit 141, ob141 P) :: (nat_lit 148, ob148 P) :: (nat_lit 150, ob150 P) :: (nat_lit 151, ob151 P) :: (nat_lit 153, ob153 P) :: (nat_lit 154, ob154 P) :: (nat_lit 155, ob155 P) :: (nat_lit 156, ob156 P) :: (nat_lit 157, ob157 P) :: (nat_lit 158, ob158 P) :: (nat_lit 161, ob161 P) :: (nat_lit 168, ob168 P) :: (nat_lit 169, ob169 P) :: (nat_lit 170, ob170 P) :: (nat_lit 173, ob173 P) :: (nat_lit 175, ob175 P) :: (nat_lit 176, ob176 P) :: (nat_lit 178, ob178 P) :: (nat_lit 179, ob179 P) :: (nat_lit 180, ob180 P) :: (nat_lit 182, ob182 P) :: (nat_lit 183, ob183 P) :: (nat_lit 185, ob185 P) :: (nat_lit 186, ob186 P) :: (nat_lit 187, ob187 P) :: (nat_lit 189, ob189 P) :: (nat_lit 190, ob190 P) :: (nat_lit 192, ob192 P) :: (nat_lit 193, ob193 P) :: (nat_lit 194, ob194 P) :: (nat_lit 196, ob196 P) :: (nat_lit 197, ob197 P) :: (nat_lit 199, ob199 P) :: (nat_lit 200, ob200 P) :: (nat_lit 201, ob201 P) :: (nat_lit 203, ob203 P) :: (nat_lit 204, ob204 P) :: (nat_lit 206, ob206 P) :: (nat_lit 207, ob207 P) :: (nat_lit 208, ob208 P) :: (nat_lit 210, ob210 P) :: (nat_lit 211, ob211 P) :: (nat_lit 213, ob213 P) :: (nat_lit 214, ob214 P) :: (nat_lit 222, ob222 P) :: (nat_lit 224, ob224 P) :: (nat_lit 225, ob225 P) :: (nat_lit 227, ob227 P) :: (nat_lit 228, ob228 P) :: (nat_lit 229, ob229 P) :: (nat_lit 231, ob231 P) :: (nat_lit 232, ob232 P) :: (nat_lit 234, ob234 P) :: (nat_lit 235, ob235 P) :: (nat_lit 236, ob236 P) :: (nat_lit 238, ob238 P) :: (nat_lit 239, ob239 P) :: (nat_lit 241, ob241 P) :: (nat_lit 242, ob242 P) :: (nat_lit 243, ob243 P) :: (nat_lit 245, ob245 P) :: (nat_lit 246, ob246 P) :: (nat_lit 248, ob248 P) :: (nat_lit 249, ob249 P) :: (nat_lit 250, ob250 P) :: (nat_lit 252, ob252 P) :: (nat_lit 253, ob253 P) :: (nat_lit 255, ob255 P) :: (nat_lit 256, ob256 P) :: (nat_lit 257, ob257 P) :: (nat_lit 259, ob259 P) :: (nat_lit 260, ob260 P) :: (nat_lit 262, ob262 P) :: (nat_lit 263, ob263 P) :: (nat_lit 264, ob264 P) :: (nat_lit 266, ob266 P) :: (nat_lit 267, ob267 P) :: (nat_lit 269, ob269 P) :: (nat_lit 270, ob270 P) :: (nat_lit 271, ob271 P) :: (nat_lit 273, ob273 P) :: (nat_lit 274, ob274 P) :: (nat_lit 276, ob276 P) :: (nat_lit 277, ob277 P) :: (nat_lit 278, ob278 P) :: (nat_lit 279, ob279 P) :: (nat_lit 280, ob280 P) :: (nat_lit 281, ob281 P) :: (nat_lit 282, ob282 P) :: (nat_lit 292, ob292 P) :: (nat_lit 294, ob294 P) :: (nat_lit 295, ob295 P) :: (nat_lit 297, ob297 P) :: (nat_lit 298, ob298 P) :: (nat_lit 299, ob299 P) :: (nat_lit 300, ob300 P) :: (nat_lit 301, ob301 P) :: (nat_lit 302, ob302 P) :: (nat_lit 303, ob303 P) :: (nat_lit 313, ob313 P) :: (nat_lit 315, ob315 P) :: (nat_lit 316, ob316 P) :: (nat_lit 318, ob318 P) :: (nat_lit 319, ob319 P) :: (nat_lit 320, ob320 P) :: (nat_lit 322, ob322 P) :: (nat_lit 323, ob323 P) :: (nat_lit 325, ob325 P) :: (nat_lit 326, ob326 P) :: (nat_lit 327, ob327 P) :: (nat_lit 329, ob329 P) :: (nat_lit 330, ob330 P) :: (nat_lit 332, ob332 P) :: (nat_lit 333, ob333 P) :: (nat_lit 334, ob334 P) :: (nat_lit 336, ob336 P) :: (nat_lit 337, ob337 P) :: (nat_lit 339, ob339 P) :: (nat_lit 340, ob340 P) :: (nat_lit 341, ob341 P) :: (nat_lit 343, ob343 P) :: (nat_lit 344, ob344 P) :: (nat_lit 346, ob346 P) :: (nat_lit 347, ob347 P) :: (nat_lit 348, ob348 P) :: (nat_lit 350, ob350 P) :: (nat_lit 351, ob351 P) :: (nat_lit 353, ob353 P) :: (nat_lit 354, ob354 P) :: (nat_lit 355, ob355 P) :: (nat_lit 356, ob356 P) :: (nat_lit 357, ob357 P) :: (nat_lit 358, ob358 P) :: (nat_lit 359, ob359 P) :: (nat_lit 362, ob362 P) :: (nat_lit 364, ob364 P) :: (nat_lit 365, ob365 P) :: (nat_lit 367, ob367 P) :: (nat_lit 368, ob368 P) :: (nat_lit 369, ob369 P) :: (nat_lit 371, ob371 P) :: (nat_lit 372, ob372 P) :: (nat_lit 374, ob374 P) :: (nat_lit 375, ob375 P) :: (nat_lit 376, ob376 P) :: (nat_lit 378, ob378 P) :: (nat_lit 379, ob379 P) :: (nat_lit 381, ob381 P) :: (nat_lit 382, ob382 P) :: (nat_lit 383, ob383 P) :: (nat_lit 385, ob385 P) :: (nat_lit 386, ob386 P) :: (nat_lit 388, ob388 P) :: (nat_lit 389, ob389 P) :: (nat_lit 390, ob390 P) :: (nat_lit 392, ob392 P) :: (nat_lit 393, ob393 P) :: (nat_lit 395, ob395 P) :: (nat_lit 396, ob396 P) :: (nat_lit 397, ob397 P) :: (nat_lit 399, ob399 P) :: (nat_lit 400, ob400 P) :: (nat_lit 402, ob402 P) :: (nat_lit 403, ob403 P) :: (nat_lit 404, ob404 P) :: (nat_lit 406, ob406 P) :: (nat_lit 407, ob407 P) :: (nat_lit 409, ob409 P) :: (nat_lit 410, ob410 P) :: (nat_lit 411, ob411 P) :: (nat_lit 413, ob413 P) :: (nat_lit 414, ob414 P) :: (nat_lit 416, ob416 P) :: (nat_lit 417, ob417 P) :: (nat_lit 418, ob418 P) :: (nat_lit 420, ob420 P) :: (nat_lit 421, ob421 P) :: (nat_lit 423, ob423 P) :: (nat_lit 424, ob424 P) :: (nat_lit 425, ob425 P) :: (nat_lit 427, ob427 P) :: (nat_lit 428, ob428 P) :: (nat_lit 430, ob430 P) :: (nat_lit 431, ob431 P) :: (nat_lit 432, ob432 P) :: (nat_lit 434, ob434 P) :: (nat_lit 435, ob435 P) :: (nat_lit 437, ob437 P) :: (nat_lit 438, ob438 P) :: (nat_lit 439, ob439 P) :: (nat_lit 441, ob441 P) :: (nat_lit 442, ob442 P) :: (nat_lit 444, ob444 P) :: (nat_lit 445, ob445 P) :: (nat_lit 446, ob446 P) :: (nat_lit 448, ob448 P) :: (nat_lit 449, ob449 P) :: (nat_lit 451, ob451 P) :: (nat_lit 452, ob452 P) :: (nat_lit 453, ob453 P) :: (nat_lit 455, ob455 P) :: (nat_lit 456, ob456 P) :: (nat_lit 458, ob458 P) :: (nat_lit 459, ob459 P) :: (nat_lit 460, ob460 P) :: (nat_lit 462, ob462 P) :: (nat_lit 463, ob463 P) :: (nat_lit 465, ob465 P) :: (nat_lit 466, ob466 P) :: (nat_lit 467, ob467 P) :: (nat_lit 469, ob469 P) :: (nat_lit 470, ob470 P) :: (nat_lit 472, ob472 P) :: (nat_lit 473, ob473 P) :: (nat_lit 474, ob474 P) :: (nat_lit 476, ob476 P) :: (nat_lit 477, ob477 P) :: (nat_lit 479, ob479 P) :: (nat_lit 480, ob480 P) :: (nat_lit 481, ob481 P) :: (nat_lit 483, ob483 P) :: (nat_lit 484, ob484 P) :: (nat_lit 486, ob486 P) :: (nat_lit 487, ob487 P) :: (nat_lit 488, ob488 P) :: (nat_lit 490, ob490 P) :: (nat_lit 491, ob491 P) :: (nat_lit 493, ob493 P) :: (nat_lit 494, ob494 P) :: (nat_lit 495, ob495 P) :: (nat_lit 497, ob497 P) :: (nat_lit 498, ob498 P) :: (nat_lit 500, ob500 P) :: (nat_lit 501, ob501 P) :: (nat_lit 502, ob502 P) :: (nat_lit 504, ob504 P) :: (nat_lit 505, ob505 P) :: (nat_lit 507, ob507 P) :: (nat_lit 508, ob508 P) :: (nat_lit 509, ob509 P) :: (nat_lit 511, ob511 P) :: (nat_lit 512, ob512 P) :: (nat_lit 514, ob514 P) :: (nat_lit 515, ob515 P) :: (nat_lit 516, ob516 P) :: (nat_lit 518, ob518 P) :: (nat_lit 519, ob519 P) :: (nat_lit 521, ob521 P) :: (nat_lit 522, ob522 P) :: (nat_lit 523, ob523 P) :: (nat_lit 525, ob525 P) :: (nat_lit 526, ob526 P) :: (nat_lit 528, ob528 P) :: (nat_lit 529, ob529 P) :: (nat_lit 530, ob530 P) :: (nat_lit 532, ob532 P) :: (nat_lit 533, ob533 P) :: (nat_lit 535, ob535 P) :: (nat_lit 536, ob536 P) :: (nat_lit 537, ob537 P) :: (nat_lit 539, ob539 P) :: (nat_lit 540, ob540 P) :: (nat_lit 542, ob542 P) :: (nat_lit 543, ob543 P) :: (nat_lit 544, ob544 P) :: (nat_lit 546, ob546 P) :: (nat_lit 547, ob547 P) :: (nat_lit 549, ob549 P) :: (nat_lit 550, ob550 P) :: (nat_lit 551, ob551 P) :: (nat_lit 553, ob553 P) :: (nat_lit 554, ob554 P) :: (nat_lit 556, ob556 P) :: (nat_lit 557, ob557 P) :: (nat_lit 558, ob558 P) :: (nat_lit 560, ob560 P) :: (nat_lit 561, ob561 P) :: (nat_lit 563, ob563 P) :: (nat_lit 564, ob564 P) :: (nat_lit 565, ob565 P) :: (nat_lit 567, ob567 P) :: (nat_lit 568, ob568 P) :: (nat_lit 570, ob570 P) :: (nat_lit 571, ob571 P) :: (nat_lit 572, ob572 P) :: (nat_lit 574, ob574 P) :: (nat_lit 575, ob575 P) :: (nat_lit 577, ob577 P) :: (nat_lit 578, ob578 P) :: (nat_lit 579, ob579 P) :: (nat_lit 581, ob581 P) :: (nat_lit 582, ob582 P) :: (nat_lit 584, ob584 P) :: (nat_lit 585, ob585 P) :: (nat_lit 586, ob586 P) :: (nat_lit 588, ob588 P) :: (nat_lit 589, ob589 P) :: (nat_lit 591, ob591 P) :: (nat_lit 592, ob592 P) :: (nat_lit 593, ob593 P) :: (nat_lit 595, ob595 P) :: (nat_lit 596, ob596 P) :: (nat_lit 598, ob598 P) :: (nat_lit 599, ob599 P) :: (nat_lit 600, ob600 P) :: (nat_lit 603, ob603 P) :: (nat_lit 604, ob604 P) :: (nat_lit 605, ob605 P) :: (nat_lit 607, ob607 P) :: (nat_lit 608, ob608 P) :: (nat_lit 610, ob610 P) :: (nat_lit 611, ob611 P) :: (nat_lit 612, ob612 P) :: (nat_lit 614, ob614 P) :: (nat_lit 615, ob615 P) :: (nat_lit 617, ob617 P) :: (nat_lit 618, ob618 P) :: (nat_lit 619, ob619 P) :: (nat_lit 621, ob621 P) :: (nat_lit 622, ob622 P) :: (nat_lit 624, ob624 P) :: (nat_lit 625, ob625 P) :: (nat_lit 626, ob626 P) :: (nat_lit 628, ob628 P) :: (nat_lit 629, ob629 P) :: (nat_lit 631, ob631 P) :: (nat_lit 632, ob632 P) :: (nat_lit 633, ob633 P) :: (nat_lit 635, ob635 P) :: (nat_lit 636, ob636 P) :: (nat_lit 638, ob638 P) :: (nat_lit 639, ob639 P) :: (nat_lit 640, ob640 P) :: (nat_lit 642, ob642 P) :: (nat_lit 643, ob643 P) :: (nat_lit 645, ob645 P) :: (nat_lit 646, ob646 P) :: (nat_lit 647, ob647 P) :: (nat_lit 649, ob649 P) :: (nat_lit 650, ob650 P) :: (nat_lit 652, ob652 P) :: (nat_lit 653, ob653 P) :: (nat_lit 654, ob654 P) :: (nat_lit 656, ob656 P) :: (nat_lit 657, ob657 P) :: (nat_lit 659, ob659 P) :: (nat_lit 660, ob660 P) :: (nat_lit 661, ob661 P) :: (nat_lit 664, ob664 P) :: (nat_lit 665, ob665 P) :: (nat_lit 666, ob666 P) :: (nat_lit 668, ob668 P) :: (nat_lit 669, ob669 P) :: (nat_lit 671, ob671 P) :: (nat_lit 672, ob672 P) :: (nat_lit 673, ob673 P) :: (nat_lit 675, ob675 P) :: (nat_lit 676, ob676 P) :: (nat_lit 678, ob678 P) :: (nat_lit 679, ob679 P) :: (nat_lit 680, ob680 P) :: (nat_lit 682, ob682 P) :: (nat_lit 683, ob683 P) :: (nat_lit 685, ob685 P) :: (nat_lit 686, ob686 P) :: (nat_lit 687, ob687 P) :: (nat_lit 690, ob690 P) :: (nat_lit 691, ob691 P) :: (nat_lit 692, ob692 P) :: (nat_lit 694, ob694 P) :: (nat_lit 695, ob695 P) :: (nat_lit 697, ob697 P) :: (nat_lit 698, ob698 P) :: (nat_lit 699, ob699 P) :: (nat_lit 701, ob701 P) :: (nat_lit 702, ob702 P) :: (nat_lit 704, ob704 P) :: (nat_lit 705, ob705 P) :: (nat_lit 706, ob706 P) :: (nat_lit 708, ob708 P) :: (nat_lit 709, ob709 P) :: (nat_lit 711, ob711 P) :: (nat_lit 712, ob712 P) :: (nat_lit 713, ob713 P) :: (nat_lit 716, ob716 P) :: (nat_lit 717, ob717 P) :: []
noncomputable def hd.view_39 : Program := { PRG with main := { PRG.main with body := ((List.range 102).filter fun i => !([1, 23, 26, 28, 31, 40, 43, 47, 49, 77].contains i)).map stAt } }
noncomputable abbrev LOOSE : List Str := ["WORD", "HALF", "ADDRESSES", "MOST_WORDS"]
noncomputable abbrev READ : List (Str × WData) := [("WORD", .int 115792089237316195423570985008687907853269984665640564039457584007913129639936), ("HALF", .int 57896044618658097711785492504343953926634992332820282019728792003956564819968), ("ADDRESSES", .int 1461501637330902918203684832716283019655932542976), ("MOST_WORDS", .int 131072)]
theorem hs_adr : ∀ P : Params, [2, 3, 15, 17, 18, 20, 21, 22, 24, 25, 27, 28, 29, 31, 32, 34, 35, 36, 38, 39, 41, 42, 43, 45, 46, 48, 49, 50, 52, 53, 55, 56, 57, 59, 60, 62, 63, 64, 66, 67, 69, 70, 71, 73, 74, 76, 77, 78, 80, 81, 83, 84, 85, 87, 88, 90, 91, 92, 94, 95, 97, 98, 99, 101, 102, 104, 105, 106, 108, 109, 111, 112, 113, 115, 116, 118, 119, 120, 122, 123, 125, 126, 127, 129, 130, 132, 133, 134, 136, 137, 139, 140, 141, 148, 150, 151, 153, 154, 155, 156, 157, 158, 161, 168, 169, 170, 173, 175, 176, 178, 179, 180, 182, 183, 185, 186, 187, 189, 190, 192, 193, 194, 196, 197, 199, 200, 201, 203, 204, 206, 207, 208, 210, 211, 213, 214, 222, 224, 225, 227, 228, 229, 231, 232, 234, 235, 236, 238, 239, 241, 242, 243, 245, 246, 248, 249, 250, 252, 253, 255, 256, 257, 259, 260, 262, 263, 264, 266, 267, 269, 270, 271, 273, 274, 276, 277, 278, 279, 280, 281, 282, 292, 294, 295, 297, 298, 299, 300, 301, 302, 303, 313, 315, 316, 318, 319, 320, 322, 323, 325, 326, 327, 329, 330, 332, 333, 334, 336, 337, 339, 340, 341, 343, 344, 346, 347, 348, 350, 351, 353, 354, 355, 356, 357, 358, 359, 362, 364, 365, 367, 368, 369, 371, 372, 374, 375, 376, 378, 379, 381, 382, 383, 385, 386, 388, 389, 390, 392, 393, 395, 396, 397, 399, 400, 402, 403, 404, 406, 407, 409, 410, 411, 413, 414, 416, 417, 418, 420, 421, 423, 424, 425, 427, 428, 430, 431, 432, 434, 435, 437, 438, 439, 441, 442, 444, 445, 446, 448, 449, 451, 452, 453, 455, 456, 458, 459, 460, 462, 463, 465, 466, 467, 469, 470, 472, 473, 474, 476, 477, 479, 480, 481, 483, 484, 486, 487, 488, 490, 491, 493, 494, 495, 497, 498, 500, 501, 502, 504, 505, 507, 508, 509, 511, 512, 514, 515, 516, 518, 519, 521, 522, 523, 525, 526, 528, 529, 530, 532, 533, 535, 536, 537, 539, 540, 542, 543, 544, 546, 547, 549, 550, 551, 553, 554, 556, 557, 558, 560, 561, 563, 564, 565, 567, 568, 570, 571, 572, 574, 575, 577, 578, 579, 581, 582, 584, 585, 586, 588, 589, 591, 592, 593, 595, 596, 598, 599, 600, 603, 604, 605, 607, 608, 610, 611, 612, 614, 615, 617, 618, 619, 621, 622, 624, 625, 626, 628, 629, 631, 632, 633, 635, 636, 638, 639, 640, 642, 643, 645, 646, 647, 649, 650, 652, 653, 654, 656, 657, 659, 660, 661, 664, 665, 666, 668, 669, 671, 672, 673, 675, 676, 678, 679, 680, 682, 683, 685, 686, 687, 690, 691, 692, 694, 695, 697, 698, 699, 701, 702, 704, 705, 706, 708, 709, 711, 712, 713, 716, 717] = (hd.heap_39 P).map (fun x => x.1) := by intro P; kernel_rfl
noncomputable abbrev HOOK : Hook := kHook hd.heap_39 [2, 3, 15, 17, 18, 20, 21, 22, 24, 25, 27, 28, 29, 31, 32, 34, 35, 36, 38, 39, 41, 42, 43, 45, 46, 48, 49, 50, 52, 53, 55, 56, 57, 59, 60, 62, 63, 64, 66, 67, 69, 70, 71, 73, 74, 76, 77, 78, 80, 81, 83, 84, 85, 87, 88, 90, 91, 92, 94, 95, 97, 98, 99, 101, 102, 104, 105, 106, 108, 109, 111, 112, 113, 115, 116, 118, 119, 120, 122, 123, 125, 126, 127, 129, 130, 132, 133, 134, 136, 137, 139, 140, 141, 148, 150, 151, 153, 154, 155, 156, 157, 158, 161, 168, 169, 170, 173, 175, 176, 178, 179, 180, 182, 183, 185, 186, 187, 189, 190, 192, 193, 194, 196, 197, 199, 200, 201, 203, 204, 206, 207, 208, 210, 211, 213, 214, 222, 224, 225, 227, 228, 229, 231, 232, 234, 235, 236, 238, 239, 241, 242, 243, 245, 246, 248, 249, 250, 252, 253, 255, 256, 257, 259, 260, 262, 263, 264, 266, 267, 269, 270, 271, 273, 274, 276, 277, 278, 279, 280, 281, 282, 292, 294, 295, 297, 298, 299, 300, 301, 302, 303, 313, 315, 316, 318, 319, 320, 322, 323, 325, 326, 327, 329, 330, 332, 333, 334, 336, 337, 339, 340, 341, 343, 344, 346, 347, 348, 350, 351, 353, 354, 355, 356, 357, 358, 359, 362, 364, 365, 367, 368, 369, 371, 372, 374, 375, 376, 378, 379, 381, 382, 383, 385, 386, 388, 389, 390, 392, 393, 395, 396, 397, 399, 400, 402, 403, 404, 406, 407, 409, 410, 411, 413, 414, 416, 417, 418, 420, 421, 423, 424, 425, 427, 428, 430, 431, 432, 434, 435, 437, 438, 439, 441, 442, 444, 445, 446, 448, 449, 451, 452, 453, 455, 456, 458, 459, 460, 462, 463, 465, 466, 467, 469, 470, 472, 473, 474, 476, 477, 479, 480, 481, 483, 484, 486, 487, 488, 490, 491, 493, 494, 495, 497, 498, 500, 501, 502, 504, 505, 507, 508, 509, 511, 512, 514, 515, 516, 518, 519, 521, 522, 523, 525, 526, 528, 529, 530, 532, 533, 535, 536, 537, 539, 540, 542, 543, 544, 546, 547, 549, 550, 551, 553, 554, 556, 557, 558, 560, 561, 563, 564, 565, 567, 568, 570, 571, 572, 574, 575, 577, 578, 579, 581, 582, 584, 585, 586, 588, 589, 591, 592, 593, 595, 596, 598, 599, 600, 603, 604, 605, 607, 608, 610, 611, 612, 614, 615, 617, 618, 619, 621, 622, 624, 625, 626, 628, 629, 631, 632, 633, 635, 636, 638, 639, 640, 642, 643, 645, 646, 647, 649, 650, 652, 653, 654, 656, 657, 659, 660, 661, 664, 665, 666, 668, 669, 671, 672, 673, 675, 676, 678, 679, 680, 682, 683, 685, 686, 687, 690, 691, 692, 694, 695, 697, 698, 699, 701, 702, 704, 705, 706, 708, 709, 711, 712, 713, 716, 717] hs_adr
noncomputable abbrev XT : Shared → Bool := fun s => xlAt hd.view_39 READ s && recOk PySem.Challenge.rw_pq0409_01.row.records s
noncomputable abbrev ANN : Option Value := some (.ref 6)
noncomputable def envT : Env := { scope := PRG.main.scope, locals := mainNs, globals := mainNs, cells := [], code := .ref 13, frame := some 14 }
noncomputable abbrev pos0 : Pos := ⟨0, 0, 0, 0⟩
noncomputable abbrev pos1 : Pos := ⟨96, 0, 133, 16⟩
noncomputable abbrev pos2 : Pos := ⟨212, 0, 214, 42⟩
noncomputable abbrev pos3 : Pos := ⟨411, 0, 425, 15⟩
noncomputable abbrev BE : List Stmt := behindTheImports PRG
noncomputable abbrev cE : Code := .body BE envT
noncomputable abbrev BF : List Frame := [topFrame pos0]
noncomputable def g1 : List Stmt := BE.take 43
noncomputable def g2 : List Stmt := (BE.drop 43).take 15
noncomputable def g3 : List Stmt := BE.drop 58
theorem hs_split : BE = g1 ++ (g2 ++ (g3 ++ [])) := by kernel_rfl
noncomputable abbrev ST (t : Params → BT) (n k : Nat) (w : World) (os : OsState) : SharedT := ⟨t w.params, n, {}, ⟨[]⟩, {}, k, os⟩
theorem hs_open : ∀ w : World, (fencedOpening treeTable PRG w 8314).map (fun s => (s.heap, s.gens, s.drawn, s.toks)) = some (boot_heap w.params, ⟨[]⟩, boot_drawn, boot_toks) := boot_open (by kernel_rfl) (by decide) (by intro s; kernel_rfl)
theorem hs_size : ∀ w : World, ((boot_heap w.params).isNs mainGlobals && (⟨[]⟩ : Array GenState).size == 0, (boot_heap w.params).objs.size, (boot_heap w.params).nsMap mainGlobals "__annotations__") = (true, 11, ANN) := by intro w; kernel_rfl
theorem hs_pre (w : World) (os : OsState) : topGo treeTable PRG w 11 ANN 12 ⟨boot_heap w.params, ⟨[]⟩, boot_drawn, boot_toks, os⟩ (topStub PRG) = some ((ST tree0 15 187 w os).abs, ⟨denote treeTable cE, cE, pos0, BF⟩) := by kernel_rfl
theorem hs_block (w : World) (os : OsState) : segRun treeTable PRG w 11 ANN 1 1 (ST tree0 15 187 w os).abs (blockOf BE envT cE pos0 BF) = some (.next, (ST tree0 15 187 w os).abs, cE, pos0) := by kernel_rfl
theorem hs_1 (w : World) (os : OsState) : segRunT treeTable PRG w 11 ANN 1 1800 (ST tree0 15 187 w os) (piecesOf g1 envT cE pos0 BF) = some (.next, ST tree1 285 559 w os, cE, pos1) := by kernel_rfl
theorem hs_2 (w : World) (os : OsState) : segRunT treeTable PRG w 11 ANN 1 1000 (ST tree1 285 559 w os) (piecesOf g2 envT cE pos1 BF) = some (.next, ST tree2 425 787 w os, cE, pos2) := by kernel_rfl
theorem hs_3 (w : World) (os : OsState) : segRunT treeTable PRG w 11 ANN 1 1400 (ST tree2 425 787 w os) (piecesOf g3 envT cE pos2 BF) = some (.next, ST tree3 718 1191 w os, cE, pos3) := by kernel_rfl
noncomputable abbrev SF (w : World) (os : OsState) : Shared := ⟨heapF w.params, ⟨[]⟩, {}, 1191, os⟩
theorem hs_fin (w : World) (os : OsState) : topRun treeTable PRG w 11 ANN 2 (ST tree3 718 1191 w os).abs ⟨doneF .next, cE, pos3, BF⟩ = some (SF w os) := by kernel_rfl
theorem hs_run (w : World) (os : OsState) : topRun treeTable PRG w 11 ANN (12 + (1 + (1800 + (1000 + (1400 + 2))))) ⟨boot_heap w.params, ⟨[]⟩, boot_drawn, boot_toks, os⟩ (topStub PRG) = some (SF w os) := by
  refine go_top (hs_pre w os) (piece_block (hs_block w os) ?_)
  have h : topRun treeTable PRG w 11 ANN (1800 + (1000 + (1400 + 2))) (ST tree0 15 187 w os).abs (restOf (g1 ++ (g2 ++ (g3 ++ []))) envT cE pos0 BF) = some (SF w os) :=
    piece_app (segRun_of (hs_1 w os)) (piece_app (segRun_of (hs_2 w os)) (piece_app (segRun_of (hs_3 w os)) (hs_fin w os)))
  rw [← hs_split] at h
  exact h
theorem hs_l0 (w : World) : (fun os => staticsOk (importedModules PRG.main.body) (boot_heap w.params) (heapF w.params) && namesBound PRG (heapF w.params) && gensDone (SF w os) && laidKept (boot_heap w.params) (heapF w.params)) = fun _ => true := by kernel_rfl
noncomputable def rfst {α β : Type} (x : α × β) : α := Prod.rec (fun a _ => a) x
noncomputable def rsnd {α β : Type} (x : α × β) : β := Prod.rec (fun _ b => b) x
theorem hs_lA (w : World) : (fun os => (openSeen hd.view_39 LOOSE (importedModules PRG.main.body) XT true (SF w os)).1) = fun _ => rfst (openGood hd.view_39 LOOSE) := by kernel_rfl
theorem hs_lB (w : World) : (fun os => (openSeen hd.view_39 LOOSE (importedModules PRG.main.body) XT true (SF w os)).2.1) = fun _ => rfst (rsnd (openGood hd.view_39 LOOSE)) := by kernel_rfl
theorem hs_lC (w : World) : (fun os => (openSeen hd.view_39 LOOSE (importedModules PRG.main.body) XT true (SF w os)).2.2.1) = fun _ => rfst (rsnd (rsnd (openGood hd.view_39 LOOSE))) := by kernel_rfl
theorem hs_lD (w : World) : (fun os => (openSeen hd.view_39 LOOSE (importedModules PRG.main.body) XT true (SF w os)).2.2.2) = fun _ => rsnd (rsnd (rsnd (openGood hd.view_39 LOOSE))) := by kernel_rfl
theorem pairs4 {α β γ δ : Type} {x y : α × β × γ × δ} (a : x.1 = rfst y) (b : x.2.1 = rfst (rsnd y)) (c : x.2.2.1 = rfst (rsnd (rsnd y))) (d : x.2.2.2 = rsnd (rsnd (rsnd y))) : x = y := by
  obtain ⟨x1, x2, x3, x4⟩ := x
  obtain ⟨y1, y2, y3, y4⟩ := y
  exact looks_pair a (looks_pair b (looks_pair c d))
theorem hs_l1 (w : World) : (fun os => openSeen hd.view_39 LOOSE (importedModules PRG.main.body) XT true (SF w os)) = fun _ => openGood hd.view_39 LOOSE :=
  funext fun os => pairs4 (congrFun (hs_lA w) os) (congrFun (hs_lB w) os) (congrFun (hs_lC w) os) (congrFun (hs_lD w) os)
theorem hs_l2 (w : World) : (fun os => HOOK.obs (SF w os)) = fun _ => HOOK.val w := by kernel_rfl
theorem hs_left : LeftO PRG hd.view_39 LOOSE XT HOOK.obs HOOK.val 8314 true :=
  LeftO.of_pieces (H₁ := heapF) (M := 12 + (1 + (1800 + (1000 + (1400 + 2))))) hs_open hs_size hs_run (by decide) fun w => funext fun os => looks_pair (congrFun (hs_l0 w) os) (looks_pair (congrFun (hs_l1 w) os) (congrFun (hs_l2 w) os))
end
end MineH
noncomputable section
namespace MineH
theorem hs_w1 : PySem.Challenge.rw_pq0409_01.row.wellSaid = true := by kernel_rfl
theorem hs_w2 : PySem.Challenge.rw_pq0409_01.wellSaid = true := by
  unfold OpenLaw.wellSaid
  rw [hs_w1]
  kernel_rfl
theorem hd (call : WalkC hd.view_39 LOOSE (XL hd.view_39 READ) HOOK.says PySem.Challenge.rw_pq0409_01.row.toRowW ⟨"law", stP (stAt 101), stB (stAt 101), stS (stAt 101), ⟨411, 0, 425, 15⟩⟩ []) : PySem.Challenge.rw_pq0409_01.Holds := by
  refine holds_law hs_w2 fun said => ?_
  refine MineH.PySem.W.holds_open (q := hd.view_39) (loose := LOOSE) (Xt := XT) (XP := XL hd.view_39 READ) (Yf := HOOK.obs) (Ya := HOOK.val) (YP := HOOK.says) (N := 8314) hs_left (Hook.of HOOK) (Hook.keeps HOOK) (fun s e => xl_of s (Bool.and_eq_true_iff.mp e).1) XL.keeps (by kernel_rfl) (by kernel_rfl) (by kernel_rfl) (fun s e => recFacts_of (Bool.and_eq_true_iff.mp e).2) (by rfl) (by first | assumption | decide +kernel) (by decide +kernel) ⟨rfl, rfl, rfl, rfl, rfl, by decide +kernel⟩ ?hw call
  w_witness2
end MineH
end
open MineH
set_option Elab.async false
set_option maxRecDepth 100000
set_option maxHeartbeats 0
set_option linter.unusedVariables false
set_option linter.unusedSimpArgs false
set_option genSizeOf false
set_option genInjectivity false
namespace Mine

noncomputable abbrev PR : Program := PySem.Challenge.rw_pq0409_01.row.prog
noncomputable abbrev VW : Program := hd.view_39
noncomputable abbrev LS : List Str := looseW hd.view_39 [Str.ofString "WORD", Str.ofString "HALF", Str.ofString "ADDRESSES", Str.ofString "MOST_WORDS"]

noncomputable abbrev Ext (h h' : Heap) : Prop := ∀ b o, h.get? b = some o → h'.get? b = some o

structure Wd (w : World) (h : Heap) : Prop where
  X : (hd.heap_39 w.params).In h
  T : ∃ mean mg mb, Top VW LS mean mg mb h

theorem Wd.keeps {w : World} {h h' : Heap} (x : Wd w h) (k : Ext h h') : Wd w h' :=
  ⟨x.X.keeps k, let ⟨a, b, c, t⟩ := x.T; ⟨a, b, c, t.keeps k⟩⟩
theorem Wd.at {w : World} {g h : Heap} {L : Addr} {m : Str → Option Value} {mean : ExcName → Option Value} {mg mb : Str → Option Value} (X : (hd.heap_39 w.params).In g) (T : Top VW LS mean mg mb g) (F : Fr g L h m) : Wd w h :=
  ⟨X.keeps F.keep, _, _, _, T.keeps F.keep⟩

noncomputable abbrev mkA (dp un : Nat) (gd : Option (List Code)) (outer : List Env) : Around := { handled := none, depth := dp, frames := some outer, guards := gd, units := un }

structure Room (n dp un : Nat) : Prop where
  d : dp + n < recursionLimit
  u : un + 8 * n + 100 < cLine
theorem Room.deep {n k dp un : Nat} (r : Room n dp un) (h : k + 1 ≤ n) : Room k (dp + 1) (un + 3) := ⟨by have := r.d; omega, by have := r.u; omega⟩

theorem room_eq {n dp un : Nat} {gd : Option (List Code)} {outer : List Env} (R : Room n dp un) : (mkA dp un gd outer).units + 64 < cLine := by
  have := R.u
  show un + 64 < cLine
  omega

noncomputable def Spec (w : World) (k : Nat) (f : Addr) (args : List Value) (Pre : Heap → Prop) (Post : Heap → Heap → Value → Prop) : Prop :=
  ∀ (s : Shared) (Q E : Value → Shared → Prop) (dp un : Nat) (gd : Option (List Code)) (outer : List Env), Room k dp un → Wd w s.heap → Pre s.heap →
    (∀ v h' tk, Ext s.heap h' → Post s.heap h' v → Q v { s with heap := h', toks := tk }) → wpAny (model PR w) (mkA dp un gd outer) (call (.ref f) args) Q E s

section
variable {w : World} {s : Shared} {Q E : Value → Shared → Prop} {n dp un : Nat} {gd : Option (List Code)} {outer : List Env}
  {name qual : Str} {params : Arguments} {body₀ body : List Stmt} {scope₀ scope : Scope} {dV kV doc pm cdv ct oc : Value} {an od : Option Addr} {osl : Array (Option Value)} {f : Addr} {args : List Value} {binds : List (Str × Value)}

theorem enter (R : Room (n + 1) dp un) (X : Wd w s.heap)
    (ho : (hd.heap_39 w.params).lookup f = some ⟨oc, od, .func (fnOf name qual params body₀ scope₀ dV kV doc pm an cdv ct), osl⟩) (hbo : body₀ = body) (hso : scope₀ = scope) (hcd : codeIn (hd.heap_39 w.params) cdv qual = true)
    (hbind : BindsTo s (fnOf name qual params body₀ scope₀ dV kV doc pm an cdv ct) ⟨args, []⟩ binds) (hloc : (binds.all fun y => decide (scope.names.lookup y.1 = some .local)) = true)
    (h : ∀ L' h₁ tk mean mg mb, let m₀ : Str → Option Value := fun y => binds.reverse.lookup y; Fr s.heap L' h₁ m₀ → News s.heap L' h₁ [] → (hd.heap_39 w.params).In s.heap → Top VW LS mean mg mb s.heap → Room n (dp + 1) (un + 3) →
      let env := envOf qual scope L' f cdv
      let A := mkA (dp + 1) (un + 3) gd (env :: outer)
      wpAny (model PR w) A (execs body env) (fun fl s' => Q (match fl with | .ret v => v | _ => .none) s')
        (fun e s' => wpAny (model PR w) A (leaving env e) (fun _ s'' => E e s'') (fun e' s'' => E e' s'') s') { s with heap := h₁, toks := tk })
    (hco : scope.isCoroutine = false) (hgen : scope.isGenerator = false) (hk : scope.kind = .function)
    (hcell : (scope.names.all fun x => decide (x.2 ≠ .cell)) = true) : wpAny (model PR w) (mkA dp un gd outer) (call (.ref f) args) Q E s := by
  subst hbo hso
  obtain ⟨mean, mg, mb, T⟩ := X.T
  refine wpAny_call (codeAny_call_def (fd := fnOf name qual params body₀ scope₀ dV kV doc pm an cdv ct) (body := body₀) (binds := binds) (show dp < recursionLimit from Nat.lt_of_le_of_lt (Nat.le_add_right _ _) R.d)
    (X.X _ _ ho) rfl T.nolimit (codeRec_of X.X hcd) rfl hbind (fun x hx => of_decide_eq_true (List.all_eq_true.mp hcell x hx)) (fun y hy => of_decide_eq_true (List.all_eq_true.mp hloc y hy)) (fun h₁ hns hk₁ => ?_) hco hgen hk)
  exact h s.heap.objs.size h₁ _ mean mg mb ⟨hns, hk₁, Nat.le_refl _⟩ News.nil X.X T (R.deep (Nat.le_refl _))
theorem enter0 (R : Room (n + 1) dp un) (X : Wd w s.heap)
    (ho : (hd.heap_39 w.params).lookup f = some ⟨oc, od, .func (fnOf name qual params body scope dV kV doc pm an cdv ct), osl⟩) (hcd : codeIn (hd.heap_39 w.params) cdv qual = true)
    (hbind : BindsTo s (fnOf name qual params body scope dV kV doc pm an cdv ct) ⟨args, []⟩ binds) (hloc : (binds.all fun y => decide (scope.names.lookup y.1 = some .local)) = true)
    (h : ∀ L' h₁ tk mean mg mb, Fr s.heap L' h₁ (fun y => binds.reverse.lookup y) → News s.heap L' h₁ [] → (hd.heap_39 w.params).In s.heap → Top VW LS mean mg mb s.heap → Room n (dp + 1) (un + 3) →
      wpAny (model PR w) (mkA (dp + 1) (un + 3) gd (envOf qual scope L' f cdv :: outer)) (execs body (envOf qual scope L' f cdv))
        (fun fl s' => Q (match fl with | .ret v => v | _ => .none) s')
        (fun e s' => wpAny (model PR w) (mkA (dp + 1) (un + 3) gd (envOf qual scope L' f cdv :: outer)) (leaving (envOf qual scope L' f cdv) e) (fun _ s'' => E e s'') (fun e' s'' => E e' s'') s')
        { s with heap := h₁, toks := tk })
    (hco : scope.isCoroutine = false) (hgen : scope.isGenerator = false) (hk : scope.kind = .function)
    (hcell : (scope.names.all fun x => decide (x.2 ≠ .cell)) = true) : wpAny (model PR w) (mkA dp un gd outer) (call (.ref f) args) Q E s :=
  enter R X ho rfl rfl hcd hbind hloc h hco hgen hk hcell
end

section
variable {w : World} {s : Shared} {Q E : Value → Shared → Prop} {n dp un : Nat} {gd : Option (List Code)} {outer : List Env}
  {name qual : Str} {params : Arguments} {body : List Stmt} {scope : Scope} {dV kV doc pm cdv ct oc : Value} {an od : Option Addr} {osl : Array (Option Value)} {f : Addr} {args : List Value} {binds : List (Str × Value)}
theorem enterC {body₀ : List Stmt} {scope₀ : Scope} (R : Room (n + 1) dp un) (X : Wd w s.heap)
    (ho : (hd.heap_39 w.params).lookup f = some ⟨oc, od, .func (fnOf name qual params body₀ scope₀ dV kV doc pm an cdv ct), osl⟩) (hbo : body₀ = body) (hso : scope₀ = scope) (hcd : codeIn (hd.heap_39 w.params) cdv qual = true)
    (hbind : BindsTo s (fnOf name qual params body₀ scope₀ dV kV doc pm an cdv ct) ⟨args, []⟩ binds) (hkind : (binds.all fun y => scope.names.lookup y.1 == some .local || scope.names.lookup y.1 == some .cell) = true)
    (hnd : ((cellsFrom 0 scope.names []).map (·.1)).Nodup)
    (h : ∀ L' h₁ tk cells mean mg mb, Fr s.heap L' h₁ (bindL (envOfC qual scope L' f cdv).kindOf binds fun _ => none) → News s.heap L' h₁ cells →
      CellsAre (bindC (envOfC qual scope L' f cdv).kindOf binds fun _ => none) (cellsFrom (L' + 1) scope.names []) cells → (hd.heap_39 w.params).In s.heap → Top VW LS mean mg mb s.heap → Room n (dp + 1) (un + 3) →
      let env₉ := envOfC qual scope L' f cdv
      let A₉ := mkA (dp + 1) (un + 3) gd (env₉ :: outer)
      wpAny (model PR w) A₉ (execs body env₉)
        (fun fl s' => Q (match fl with | .ret v => v | _ => .none) s')
        (fun e s' => wpAny (model PR w) A₉ (leaving env₉ e) (fun _ s'' => E e s'') (fun e' s'' => E e' s'') s')
        { s with heap := h₁, toks := tk })
    (hco : scope.isCoroutine = false) (hgen : scope.isGenerator = false) (hk : scope.kind = .function) : wpAny (model PR w) (mkA dp un gd outer) (call (.ref f) args) Q E s := by
  obtain rfl := hbo.symm
  obtain rfl := hso.symm
  obtain ⟨mean, mg, mb, T⟩ := X.T
  refine wpAny_call (codeAny_call_function (show dp < recursionLimit from Nat.lt_of_le_of_lt (Nat.le_add_right _ _) R.d) (X.X _ _ ho) rfl hco hgen rfl (codeRec_of X.X hcd) (hbind _ _ _ _ ?_))
  refine wpAny_newFunctionEnv_cells hk (kindsX hkind _) fun env' he s' x => ?_
  subst he
  refine ⟨T.nolimit.keeps x.toInCall.keep, codeAny_func ?_⟩
  obtain ⟨h₁, tk, rfl, _⟩ := x.done
  have hk₁ := x.toInCall.keep
  obtain ⟨cells, NC, Y⟩ := Cl.news (h₀ := s.heap) (Nat.le_refl _) fun n c hm => ⟨x.cell n c (lookup_of_mem_nodup (cellsFrom_names scope.names 0 (s.heap.objs.size + 1) [] [] rfl ▸ hnd) hm), x.above n c hm⟩
  exact h s.heap.objs.size h₁ tk cells mean mg mb ⟨x.toInCall.ns, hk₁, Nat.le_refl _⟩ NC Y X.X T (R.deep (Nat.le_refl _))
end

noncomputable def IsL (h : Heap) (l : Addr) (ns : List Int) : Prop := ∃ vs n, h.get? l = some (listOf (List.toArray vs) n) ∧ IntsAre vs ns
theorem IsL.keeps {h h' : Heap} {l : Addr} {ns : List Int} (x : IsL h l ns) (k : Ext h h') : IsL h' l ns := let ⟨vs, n, a, b⟩ := x; ⟨vs, n, k _ _ a, b⟩
theorem IsL.ofNews {g h : Heap} {L l : Addr} {vs : List Value} {n : Nat} {ns : List Int} {news : List (Addr × Obj)} (N : News g L h news) (hm : (l, listOf vs.toArray n) ∈ news) (hi : IntsAre vs ns) : IsL h l ns := ⟨vs, n, (N _ hm).1, hi⟩
theorem IsL.ofOld {g h : Heap} {L l : Addr} {m : Str → Option Value} {ns : List Int} (F : Fr g L h m) (x : IsL g l ns) : IsL h l ns := x.keeps F.keep
theorem IsL.list {h : Heap} {l : Addr} {ns : List Int} (x : IsL h l ns) : ∃ vs, h.IsList l vs.toArray ∧ IntsAre vs ns := let ⟨vs, n, a, b⟩ := x; ⟨vs, ⟨_, a, rfl, n, rfl⟩, b⟩

noncomputable def AllNe (d : Nat) : List (Addr × Obj) → Prop
  | [] => True
  | p :: r => @Ne Nat p.1 d ∧ AllNe d r
theorem allNe_of {d : Addr} : ∀ {l : List (Addr × Obj)}, (∀ p ∈ l, p.1 ≠ d) → AllNe d l
  | [], _ => trivial
  | p :: _, h => ⟨h p (.head _), allNe_of fun q hq => h q (.tail _ hq)⟩

section
variable {g h h' : Heap} {L l : Addr} {m : Str → Option Value} {news : List (Addr × Obj)} {o : Obj}
theorem fr_ext (F : Fr g L h m) (k : Ext h h') : Fr g L h' m := ⟨F.ns.keeps k, fun b o e => k b o (F.keep b o e), F.above⟩
theorem news_ext (N : News g L h news) (k : Ext h h') : News g L h' news := fun p hp => ⟨k _ _ (N p hp).1, (N p hp).2⟩
theorem news_new (F : Fr g L h m) (N : News g L h news) (k : Ext h h') (hn : h.get? l = none) (ho : h'.get? l = some o) : News g L h' ((l, o) :: news) := by
  intro p hp
  rcases List.mem_cons.mp hp with rfl | hp
  · refine ⟨ho, fun e => ?_, ?_⟩
    · obtain ⟨oL, _, _, hL, _⟩ := F.ns
      dsimp only at e
      subst e
      rw [hn] at hL; cases hL
    · cases q : g.get? l with
      | none => rfl
      | some o' => have := F.keep _ _ q; rw [hn] at this; cases this
  · exact ⟨k _ _ (N p hp).1, (N p hp).2⟩
theorem news_ne (N : News g L h news) (hn : h.get? l = none) : AllNe l news := allNe_of fun p hp e => by
  have := (N p hp).1
  rw [e, hn] at this; cases this
theorem news_fresh (N : News g L h news) (hm : (l, o) ∈ news) : g.get? l = none := (N _ hm).2.2
end

noncomputable abbrev PInt (x : Int) : Heap → Heap → Value → Prop := fun _ _ v => ∃ t, v = .int x t
noncomputable abbrev PBool (b : Bool) : Heap → Heap → Value → Prop := fun _ _ v => v = .bool b
noncomputable abbrev PBytes (ks : List Int) : Heap → Heap → Value → Prop := fun _ _ v => ∃ b t, v = .bytes b t ∧ KBw.bInts b = ks
noncomputable abbrev PList (ns : List Int) : Heap → Heap → Value → Prop := fun h h' v => ∃ l, v = .ref l ∧ h.get? l = none ∧ IsL h' l ns
noncomputable abbrev tupOf (its : Array Value) (n : Nat) : Obj := { cls := .type "tuple", data := .seq its n }
noncomputable abbrev PTup2 (x y : Int) : Heap → Heap → Value → Prop := fun h h' v => ∃ l t u, v = .ref l ∧ h.get? l = none ∧ h'.get? l = some { cls := .type "tuple", data := .seq [Value.int x t, Value.int y u].toArray }
noncomputable abbrev PTup3 (x y z : Int) : Heap → Heap → Value → Prop := fun h h' v => ∃ l t u r, v = .ref l ∧ h.get? l = none ∧ h'.get? l = some { cls := .type "tuple", data := .seq [Value.int x t, Value.int y u, Value.int z r].toArray }

section
variable {w : World} {s : Shared} {Q E : Value → Shared → Prop} {k n dp un : Nat} {gd : Option (List Code)} {outer : List Env} {f : Addr} {args : List Value} {Pre : Heap → Prop} {Post : Heap → Heap → Value → Prop}
  {g : Heap} {L : Addr} {m : Str → Option Value} {news : List (Addr × Obj)} {mean : ExcName → Option Value} {mg mb : Str → Option Value}
theorem Room.le (r : Room n dp un) (h : k ≤ n) : Room k dp un := ⟨by have := r.d; omega, by have := r.u; omega⟩
theorem Spec.useI {x : Int} (S : Spec w k f args Pre (PInt x)) (R : Room n dp un) {hh : Heap} {ge : Array GenState} {dr : Drawn} {tk₀ : Nat} {os : OsState} (F : Fr g L hh m) (N : News g L hh news) (X : (hd.heap_39 w.params).In g) (T : Top VW LS mean mg mb g) (hp : Pre hh) (hk : k ≤ n)
    (h : ∀ t h' tk, Fr g L h' m → News g L h' news → Q (.int x t) ⟨h', ge, dr, tk, os⟩) : wpAny (model PR w) (mkA dp un gd outer) (call (.ref f) args) Q E ⟨hh, ge, dr, tk₀, os⟩ :=
  S ⟨hh, ge, dr, tk₀, os⟩ Q E dp un gd outer (R.le hk) (Wd.at X T F) hp fun v h' tk hE P9 => by obtain ⟨t, e⟩ := P9; subst e; exact h t h' tk (fr_ext F hE) (news_ext N hE)
theorem Spec.useB {b : Bool} (S : Spec w k f args Pre (PBool b)) (R : Room n dp un) {hh : Heap} {ge : Array GenState} {dr : Drawn} {tk₀ : Nat} {os : OsState} (F : Fr g L hh m) (N : News g L hh news) (X : (hd.heap_39 w.params).In g) (T : Top VW LS mean mg mb g) (hp : Pre hh) (hk : k ≤ n)
    (h : ∀ h' tk, Fr g L h' m → News g L h' news → Q (.bool b) ⟨h', ge, dr, tk, os⟩) : wpAny (model PR w) (mkA dp un gd outer) (call (.ref f) args) Q E ⟨hh, ge, dr, tk₀, os⟩ :=
  S ⟨hh, ge, dr, tk₀, os⟩ Q E dp un gd outer (R.le hk) (Wd.at X T F) hp fun v h' tk hE e => by cases e; exact h h' tk (fr_ext F hE) (news_ext N hE)
theorem Spec.useY {ks : List Int} (S : Spec w k f args Pre (PBytes ks)) (R : Room n dp un) {hh : Heap} {ge : Array GenState} {dr : Drawn} {tk₀ : Nat} {os : OsState} (F : Fr g L hh m) (N : News g L hh news) (X : (hd.heap_39 w.params).In g) (T : Top VW LS mean mg mb g) (hp : Pre hh) (hk : k ≤ n)
    (h : ∀ b t h' tk, Fr g L h' m → News g L h' news → KBw.bInts b = ks → Q (.bytes b t) ⟨h', ge, dr, tk, os⟩) : wpAny (model PR w) (mkA dp un gd outer) (call (.ref f) args) Q E ⟨hh, ge, dr, tk₀, os⟩ :=
  S ⟨hh, ge, dr, tk₀, os⟩ Q E dp un gd outer (R.le hk) (Wd.at X T F) hp fun v h' tk hE P9 => by obtain ⟨b, t, e, hb⟩ := P9; subst e; exact h b t h' tk (fr_ext F hE) (news_ext N hE) hb
theorem Spec.useL {ns : List Int} (S : Spec w k f args Pre (PList ns)) (R : Room n dp un) {hh : Heap} {ge : Array GenState} {dr : Drawn} {tk₀ : Nat} {os : OsState} (F : Fr g L hh m) (N : News g L hh news) (X : (hd.heap_39 w.params).In g) (T : Top VW LS mean mg mb g) (hp : Pre hh) (hk : k ≤ n)
    (h : ∀ l vs nn h' tk, let nx : List (Addr × Obj) := (l, listOf (List.toArray vs) nn) :: news; Fr g L h' m → News g L h' nx → IntsAre vs ns → vs.length = ns.length → AllNe l news → Q (.ref l) ⟨h', ge, dr, tk, os⟩) : wpAny (model PR w) (mkA dp un gd outer) (call (.ref f) args) Q E ⟨hh, ge, dr, tk₀, os⟩ :=
  S ⟨hh, ge, dr, tk₀, os⟩ Q E dp un gd outer (R.le hk) (Wd.at X T F) hp fun v h' tk hE P9 => by obtain ⟨l, e, hn, vs, nn, ho, hi⟩ := P9; subst e; exact h l vs nn h' tk (fr_ext F hE) (news_new F N hE hn ho) hi hi.length (news_ne N hn)
theorem Spec.useT {x y : Int} (S : Spec w k f args Pre (PTup2 x y)) (R : Room n dp un) {hh : Heap} {ge : Array GenState} {dr : Drawn} {tk₀ : Nat} {os : OsState} (F : Fr g L hh m) (N : News g L hh news) (X : (hd.heap_39 w.params).In g) (T : Top VW LS mean mg mb g) (hp : Pre hh) (hk : k ≤ n)
    (h : ∀ l t u h' tk, let nx : List (Addr × Obj) := (l, { cls := .type "tuple", data := .seq [Value.int x t, Value.int y u].toArray }) :: news; Fr g L h' m → News g L h' nx → AllNe l news → Q (.ref l) ⟨h', ge, dr, tk, os⟩) : wpAny (model PR w) (mkA dp un gd outer) (call (.ref f) args) Q E ⟨hh, ge, dr, tk₀, os⟩ :=
  S ⟨hh, ge, dr, tk₀, os⟩ Q E dp un gd outer (R.le hk) (Wd.at X T F) hp fun v h' tk hE P9 => by obtain ⟨l, t, u, e, hn, ho⟩ := P9; subst e; exact h l t u h' tk (fr_ext F hE) (news_new F N hE hn ho) (news_ne N hn)
theorem Spec.useT3 {x y z : Int} (S : Spec w k f args Pre (PTup3 x y z)) (R : Room n dp un) {hh : Heap} {ge : Array GenState} {dr : Drawn} {tk₀ : Nat} {os : OsState} (F : Fr g L hh m) (N : News g L hh news) (X : (hd.heap_39 w.params).In g) (T : Top VW LS mean mg mb g) (hp : Pre hh) (hk : k ≤ n)
    (h : ∀ l t u r h' tk, let nx : List (Addr × Obj) := (l, { cls := .type "tuple", data := .seq [Value.int x t, Value.int y u, Value.int z r].toArray }) :: news; Fr g L h' m → News g L h' nx → AllNe l news → Q (.ref l) ⟨h', ge, dr, tk, os⟩) : wpAny (model PR w) (mkA dp un gd outer) (call (.ref f) args) Q E ⟨hh, ge, dr, tk₀, os⟩ :=
  S ⟨hh, ge, dr, tk₀, os⟩ Q E dp un gd outer (R.le hk) (Wd.at X T F) hp fun v h' tk hE P9 => by obtain ⟨l, t, u, r, e, hn, ho⟩ := P9; subst e; exact h l t u r h' tk (fr_ext F hE) (news_new F N hE hn ho) (news_ne N hn)
end

section
variable {s : Shared} {Q : Value → Shared → Prop} {L : Addr} {h : Heap} {m : Str → Option Value} {t : Tok} {tk : Nat} {news : List (Addr × Obj)}
theorem retI {x y : Int} (hQ : ∀ v h' tk, Ext s.heap h' → PInt x s.heap h' v → Q v { s with heap := h', toks := tk }) (F : Fr s.heap L h m) (e : y = x) : Q (.int y t) { s with heap := h, toks := tk } := hQ _ _ _ F.keep ⟨t, by rw [e]⟩
theorem retB {x y : Bool} (hQ : ∀ v h' tk, Ext s.heap h' → PBool x s.heap h' v → Q v { s with heap := h', toks := tk }) (F : Fr s.heap L h m) (e : y = x) : Q (.bool y) { s with heap := h, toks := tk } := hQ _ _ _ F.keep (by show _ = _; rw [e])
theorem retY {ks ms : List Int} {b : Array UInt8} (hQ : ∀ v h' tk, Ext s.heap h' → PBytes ks s.heap h' v → Q v { s with heap := h', toks := tk }) (F : Fr s.heap L h m) (hb : KBw.bInts b = ms) (e : ms = ks) : Q (.bytes b t) { s with heap := h, toks := tk } := hQ _ _ _ F.keep ⟨b, t, rfl, e ▸ hb⟩
theorem retL {ns ms : List Int} {l : Addr} {vs : List Value} {n : Nat} (hQ : ∀ v h' tk, Ext s.heap h' → PList ns s.heap h' v → Q v { s with heap := h', toks := tk }) (F : Fr s.heap L h m) (N : News s.heap L h news)
    (hm : (l, listOf vs.toArray n) ∈ news) (hi : IntsAre vs ms) (e : ms = ns) : Q (.ref l) { s with heap := h, toks := tk } := hQ _ _ _ F.keep ⟨l, rfl, news_fresh N hm, vs, n, (N _ hm).1, e ▸ hi⟩
theorem retT {x y x' y' : Int} {l : Addr} {t u : Tok} (hQ : ∀ v h' tk, Ext s.heap h' → PTup2 x y s.heap h' v → Q v { s with heap := h', toks := tk }) (F : Fr s.heap L h m) (N : News s.heap L h news)
    (hm : (l, { cls := .type "tuple", data := .seq [Value.int x' t, Value.int y' u].toArray }) ∈ news) (e : x' = x) (e' : y' = y) : Q (.ref l) { s with heap := h, toks := tk } := hQ _ _ _ F.keep ⟨l, t, u, rfl, news_fresh N hm, e ▸ e' ▸ (N _ hm).1⟩
theorem retT3 {x y z x' y' z' : Int} {l : Addr} {t u r : Tok} (hQ : ∀ v h' tk, Ext s.heap h' → PTup3 x y z s.heap h' v → Q v { s with heap := h', toks := tk }) (F : Fr s.heap L h m) (N : News s.heap L h news)
    (hm : (l, { cls := .type "tuple", data := .seq [Value.int x' t, Value.int y' u, Value.int z' r].toArray }) ∈ news) (e : x' = x) (e' : y' = y) (e'' : z' = z) : Q (.ref l) { s with heap := h, toks := tk } := hQ _ _ _ F.keep ⟨l, t, u, r, rfl, news_fresh N hm, e ▸ e' ▸ e'' ▸ (N _ hm).1⟩
end
section
open PyProof.V PySem.Spec
variable {σ : Type} {prog : Program} {w : World} {A : Around} {E : Value → Shared → Prop} {Q : Flow → Shared → Prop} {s : Shared} {env : Env} {g : Heap} {L : Addr} {x : Str} {body : List Stmt}
noncomputable def kB (rest : Str → Option Value) : List (Str × Value) → Str → Option Value
  | [] => rest
  | (n, v) :: r => fun z => if z = n then some v else kB rest r z
theorem kB_eq {m : Str → Option Value} {z : Str} : ∀ {ps : List (Str × Value)}, (∀ p ∈ ps, m p.1 = some p.2) → kB m ps z = m z
  | [], _ => rfl
  | (n, v) :: r, h => by
    show (if z = n then some v else kB m r z) = m z
    by_cases e : z = n
    · rw [if_pos e, e]; exact (h _ (.head _)).symm
    · rw [if_neg e]; exact kB_eq fun q hq => h q (.tail _ hq)
theorem fr_names {h : Heap} {m : Str → Option Value} {ps : List (Str × Value)} (h1 : ∀ p ∈ ps, m p.1 = some p.2) (F : Fr g L h m) : Fr g L h (kB m ps) := by
  have e : kB m ps = m := funext fun z => kB_eq h1
  rw [e]; exact F
theorem fr_namesX {h : Heap} {m : Str → Option Value} {v : Value} {ps : List (Str × Value)} (h1 : ∀ p ∈ ps, m p.1 = some p.2) (F : Fr g L h (fun y => if y = x then some v else m y)) : Fr g L h (fun y => if y = x then some v else kB m ps y) := by
  have e : kB m ps = m := funext fun z => kB_eq h1
  rw [e]; exact F
noncomputable def WEnd (g : Heap) (L : Addr) (s : Shared) (St : σ → List (Str × Value) × List (Addr × Obj)) (I : σ → Prop) (μ : σ → Nat) (c : σ) (s₂ : Shared) : Prop :=
  ∃ (c' : σ) (h' : Heap) (tk : Nat) (m' : Str → Option Value) (news' : List (Addr × Obj)), s₂ = { s with heap := h', toks := tk } ∧ Fr g L h' m' ∧ News g L h' news' ∧ (∀ p ∈ (St c').1, m' p.1 = some p.2) ∧ (∀ p ∈ (St c').2, p ∈ news') ∧ I c' ∧ μ c' < μ c
noncomputable def WPost (g : Heap) (L : Addr) (s : Shared) (St : σ → List (Str × Value) × List (Addr × Obj)) (I : σ → Prop) (μ : σ → Nat) (Q : Flow → Shared → Prop) (c : σ) (f : Flow) (s₂ : Shared) : Prop :=
  match f with
  | .ret v => Q (.ret v) s₂
  | .brk => Q .next s₂
  | _ => WEnd g L s St I μ c s₂
theorem WEnd.intro {St : σ → List (Str × Value) × List (Addr × Obj)} {I : σ → Prop} {μ : σ → Nat} {c : σ} {h' : Heap} {tk : Nat} {m' : Str → Option Value} {news' : List (Addr × Obj)} (F : Fr g L h' m') (N : News g L h' news') (c' : σ) (h1 : ∀ p ∈ (St c').1, m' p.1 = some p.2) (h2 : ∀ p ∈ (St c').2, p ∈ news') (h3 : I c') (h4 : μ c' < μ c) :
    WEnd g L s St I μ c { s with heap := h', toks := tk } := ⟨c', h', tk, m', news', rfl, F, N, h1, h2, h3, h4⟩
theorem whileK {test : Expr} {pos : Pos} {m₀ : Str → Option Value} {news₀ : List (Addr × Obj)} (St : σ → List (Str × Value) × List (Addr × Obj)) (I : σ → Prop) (μ : σ → Nat) (c₀ : σ)
    (F : Fr g L s.heap m₀) (N : News g L s.heap news₀) (hk : ∀ p ∈ (St c₀).1, m₀ p.1 = some p.2) (hl : ∀ p ∈ (St c₀).2, p ∈ news₀) (hi : I c₀)
    (turn : ∀ (c : σ) (u : Str → Option Value) h tk, I c → Fr g L h (kB u ((St c).1)) → News g L h ((St c).2) →
      wpAny (model prog w) A (isTrue test env (eval test env)) (fun b s₂ =>
        if b = true then wpAny (model prog w) A (execs body env) (WPost g L s St I μ Q c) E s₂ else Q .next s₂) E { s with heap := h, toks := tk })
    (hE : PassesOwn (model prog w) A env E) :
    wpAny (model prog w) A (exec (.While test body [] pos) env) Q E s := by
  refine While_inv2 (fun n m nx => ∃ c : σ, nx = (St c).2 ∧ μ c = n ∧ (∀ p ∈ (St c).1, m p.1 = some p.2) ∧ I c) F (fun p hp => N p (hl p hp)) ⟨c₀, rfl, rfl, hk, hi⟩ ?_ hE
  rintro n m₁ news₁ h tk F₁ N₁ ⟨c, rfl, rfl, h1, h2⟩
  refine wpAny_mono (turn c m₁ h tk h2 (fr_names h1 F₁) N₁) (fun b s₂ p => ?_) fun _ _ x => x
  cases b with
  | false => simpa using p
  | true =>
    simp only [if_true] at p ⊢
    refine wpAny_mono p (fun f s₃ q => ?_) fun _ _ x => x
    cases f with
    | ret v => exact q
    | brk => exact q
    | next =>
      obtain ⟨c', h', tk', m', news', rfl, F', N', a1, a2, a3, a4⟩ := q
      exact ⟨h', tk', m', (St c').2, μ c', rfl, F', fun p hp => N' p (a2 p hp), a4, c', rfl, rfl, a1, a3⟩
    | cont =>
      obtain ⟨c', h', tk', m', news', rfl, F', N', a1, a2, a3, a4⟩ := q
      exact ⟨h', tk', m', (St c').2, μ c', rfl, F', fun p hp => N' p (a2 p hp), a4, c', rfl, rfl, a1, a3⟩

noncomputable def FEnd (g : Heap) (L : Addr) (s : Shared) (St : σ → List (Str × Value) × List (Addr × Obj)) (I : Nat → σ → Prop) (i : Nat) (own : List (Addr × Obj)) (adr : List Addr) (s₂ : Shared) : Prop :=
  ∃ (c' : σ) (h' : Heap) (tk : Nat) (m' : Str → Option Value) (news' : List (Addr × Obj)), s₂ = { s with heap := h', toks := tk } ∧ Fr g L h' m' ∧ News g L h' news' ∧ (∀ p ∈ (St c').1, m' p.1 = some p.2) ∧ (∀ p ∈ (St c').2, p ∈ news') ∧ (∀ p ∈ own, p ∈ news') ∧ ((St c').2).map (·.1) = adr ∧ I (i + 1) c'
noncomputable def FPost (g : Heap) (L : Addr) (s : Shared) (St : σ → List (Str × Value) × List (Addr × Obj)) (I : Nat → σ → Prop) (i : Nat) (own : List (Addr × Obj)) (adr : List Addr) (Q : Flow → Shared → Prop) (f : Flow) (s₂ : Shared) : Prop :=
  match f with
  | .ret v => Q (.ret v) s₂
  | .brk => Q .next s₂
  | _ => FEnd g L s St I i own adr s₂
theorem FEnd.intro {St : σ → List (Str × Value) × List (Addr × Obj)} {I : Nat → σ → Prop} {i : Nat} {own : List (Addr × Obj)} {adr : List Addr} {h' : Heap} {tk : Nat} {m' : Str → Option Value} {news' : List (Addr × Obj)} (F : Fr g L h' m') (N : News g L h' news') (c' : σ)
    (h1 : ∀ p ∈ (St c').1, m' p.1 = some p.2) (h2 : ∀ p ∈ (St c').2, p ∈ news') (h3 : ∀ p ∈ own, p ∈ news') (h4 : ((St c').2).map (·.1) = adr) (h5 : I (i + 1) c') :
    FEnd g L s St I i own adr { s with heap := h', toks := tk } := ⟨c', h', tk, m', news', rfl, F, N, h1, h2, h3, h4, h5⟩
theorem fend_to {St : σ → List (Str × Value) × List (Addr × Obj)} {I : Nat → σ → Prop} {i : Nat} {own : List (Addr × Obj)} {adr : List Addr} {Q : Flow → Shared → Prop} {f : Flow} {s₂ : Shared} (p : FPost g L s St I i own adr Q f s₂) :
    InvPostN g L (fun m nx => ∃ c : σ, nx = (St c).2 ∧ (∀ p ∈ (St c).1, m p.1 = some p.2) ∧ I (i + 1) c) own adr s Q f s₂ := by
  have fin : FEnd g L s St I i own adr s₂ → InvEndN g L (fun m nx => ∃ c : σ, nx = (St c).2 ∧ (∀ p ∈ (St c).1, m p.1 = some p.2) ∧ I (i + 1) c) own adr s s₂ := by
    rintro ⟨c', h', tk, m', news', rfl, F, N, h1, h2, h3, h4, h5⟩
    exact ⟨h', tk, m', news', (St c').2, rfl, F, N, h2, h3, h4, c', rfl, h1, h5⟩
  cases f with
  | ret v => exact p
  | brk => exact p
  | next => exact fin p
  | cont => exact fin p
theorem forL {l : Addr} {vs : List Value} {ns : List Int} {nn : Nat} {m₀ : Str → Option Value} {news : List (Addr × Obj)} (St : σ → List (Str × Value) × List (Addr × Obj)) (I : Nat → σ → Prop) (c₀ : σ)
    (hh : A.handled = none) (hl : (l, listOf vs.toArray nn) ∈ news) (hm : ∀ c, (l, listOf vs.toArray nn) ∈ (St c).2) (hi : IntsAre vs ns) (F : Fr g env.locals s.heap m₀) (N : News g env.locals s.heap news) (hk : ∀ p ∈ (St c₀).1, m₀ p.1 = some p.2) (hld : ∀ p ∈ (St c₀).2, p ∈ news) (h0 : I 0 c₀)
    (turn : ∀ (c : σ) i n t (u : Str → Option Value) h tk own, ns[i]? = some n → OwnOff own ((St c₀).2.map (·.1)) → I i c → Fr g env.locals h (fun y => if y = x then some (.int n t) else kB u ((St c).1) y) → News g env.locals h ((St c).2 ++ own) →
      wpAny (model prog w) A (execs body env) (FPost g env.locals { s with heap := h, toks := tk } St I i own ((St c₀).2.map (·.1)) Q) E { s with heap := h, toks := tk })
    (done : ∀ (c : σ) (u : Str → Option Value) h tk, I ns.length c → Fr g env.locals h (kB u ((St c).1)) → News g env.locals h ((St c).2) → Q .next { s with heap := h, toks := tk }) :
    wpAny (model prog w) A (pyIter (.ref l)) (fun it s₂ => LoopAtV prog w A g env x body Q E it s₂) E s := by
  refine iter_invNL (fun i m nx => ∃ c : σ, nx = (St c).2 ∧ (∀ p ∈ (St c).1, m p.1 = some p.2) ∧ I i c) hh (hm c₀) hi F (fun p hp => N p (hld p hp)) ⟨c₀, rfl, hk, h0⟩ ?_ ?_
  · rintro i n t m₁ nx h tk own hn _ hoff _ ⟨c, rfl, h1, h2⟩ F₁ N₁
    refine wpAny_mono (turn c i n t m₁ h tk own hn hoff h2 (fr_namesX h1 F₁) N₁) (fun f s₂ p => ?_) fun _ _ x => x
    have q := fend_to p
    have up : InvEndN g env.locals (fun m nx => ∃ c : σ, nx = (St c).2 ∧ (∀ p ∈ (St c).1, m p.1 = some p.2) ∧ I (i + 1) c) own ((St c₀).2.map (·.1)) { s with heap := h, toks := tk } s₂ →
        InvEndN g env.locals (fun m' nx => (l, listOf vs.toArray nn) ∈ nx ∧ ∃ c : σ, nx = (St c).2 ∧ (∀ p ∈ (St c).1, m' p.1 = some p.2) ∧ I (i + 1) c) own ((St c₀).2.map (·.1)) { s with heap := h, toks := tk } s₂ := by
      rintro ⟨h', tk', m', news', nx', e', F', N', hn', ho', ha, c', rfl, r⟩
      exact ⟨h', tk', m', news', _, e', F', N', hn', ho', ha, hm c', c', rfl, r⟩
    cases f with
    | ret v => exact q
    | brk => exact q
    | next => exact up q
    | cont => exact up q
  · rintro m₁ nx h tk _ ⟨c, rfl, h1, h2⟩ F₁ N₁
    exact done c m₁ h tk h2 (fr_names h1 F₁) N₁
end
section
variable {A : Around} {E : Value → Shared → Prop} {Q : Unit → Shared → Prop} {s : Shared} {M : Model} {h₀ : Heap} {L : Addr} {m : Str → Option Value} {x cn : Str} {v : Value} {cs : Scope} {a : Addr} {ccd : Value} {cl : List (Str × Addr)} {news : List (Addr × Obj)}
theorem storeY {hh : Heap} {ge : Array GenState} {dr : Drawn} {tk₀ : Nat} {os : OsState} (F : Fr h₀ L hh m) (N : News h₀ L hh news)
    (h : ∀ h' tk, let m' : Str → Option Value := fun y => if y = x then some v else m y; Fr h₀ L h' m' → News h₀ L h' news → Q () ⟨h', ge, dr, tk, os⟩)
    (hk : cs.kind = .function) (hx : (envX cn cs L a ccd cl).kindOf x = some .local) : wpAny M A (storeName (envX cn cs L a ccd cl) x v) Q E ⟨hh, ge, dr, tk₀, os⟩ :=
  storeX_L (s := ⟨hh, ge, dr, tk₀, os⟩) F N (fun h' F' N' => h h' _ F' N') hk hx
end
theorem nameP {P : Prop} (k : let G := P; G) : P := k
theorem nameQ {α : Type} {M : Model} {A : Around} {t : Sem α} {Q : α → Shared → Prop} {E : Value → Shared → Prop} {s : Shared} (h : let q := Q; wpAny M A t q E s) : wpAny M A t Q E s := h
theorem allC {α : Type} {p : α → Prop} {a : α} {l : List α} (h : p a) (t : ∀ x ∈ l, p x) : ∀ x ∈ a :: l, p x := List.forall_mem_cons.mpr ⟨h, t⟩
theorem withP {P G : Prop} (h : P) (k : P → G) : G := k h
section
variable {w : World} {A : Around} {E : Value → Shared → Prop} {env : Env} {g hh : Heap} {L : Addr} {m : Str → Option Value} {ge : Array GenState} {dr : Drawn} {tk : Nat} {os : OsState} {Q : Value → Shared → Prop} {x y z : Str} {p p₁ p₂ p₃ p₄ : Pos} {v v₁ v₂ v₃ : Value} {f : Addr}
structure Here (w : World) (env : Env) (g : Heap) (L : Addr) : Prop where
  W : Wd w g
  k : env.scope.kind = .function
  g : env.globals = mainGlobals
  l : env.locals = L
theorem Here.of {mean : ExcName → Option Value} {mg mb : Str → Option Value} (X : (hd.heap_39 w.params).In g) (T : Top VW LS mean mg mb g) (k : env.scope.kind = .function) (hg : env.globals = mainGlobals) (l : env.locals = L) : Here w env g L := ⟨⟨X, _, _, _, T⟩, k, hg, l⟩
noncomputable def isLoc (env : Env) (x : Str) : Bool := env.kindOf x == some .local && !(x == ("__debug__" : Str))
theorem nameLoc {s : Shared} (H : Here w env g L) (F : Fr g L s.heap m) (hx : isLoc env x = true) (hv : m x = some v) (h : Q v s) : wpAny (model PR w) A (eval (.Name x p) env) Q E s := by
  obtain ⟨hx, hd⟩ := Bool.and_eq_true_iff.mp hx
  exact wpAny_Name (wpAny_loadName_local H.k (beq_iff_eq.mp hx) (H.l ▸ F.ns) hv h) (by simpa using hd)
theorem nameDef {s : Shared} (H : Here w env g L) (F : Fr g L s.heap m) (hx : env.kindOf x = some .globalImplicit) (hb : (x == ("__debug__" : Str)) = false) (e : nsIn (hd.heap_39 w.params) mainGlobals x = some (some (.ref f))) (h : Q (.ref f) s) : wpAny (model PR w) A (eval (.Name x p) env) Q E s := by
  obtain ⟨X, mean, mg, mb, T⟩ := H.W
  exact Name_function_global H.k hx (loadGlobal_global (H.g ▸ T.g.keeps F.keep) (mg_of X T.g e) h) hb
theorem callW {s : Shared} {e : Expr} {rest : List Expr} (H : Here w env g L) (F : Fr g L s.heap m) (hx : env.kindOf x = some .globalImplicit) (hb : (x == ("__debug__" : Str)) = false) (e' : nsIn (hd.heap_39 w.params) mainGlobals x = some (some (.ref f))) (kk : keepIn (hd.heap_39 w.params) (.ref f) = true)
    (h : wpAny (model PR w) A (spliced (backTo p₂ (starEach (e :: rest) env))) (fun vs s₁ => (hd.heap_39 w.params).In s₁.heap ∧ wpAny (model PR w) A (call (.ref f) vs) Q E s₁) E s) (he : starEach (e :: rest) env = (false, eval e env) :: starEach rest env) (hplain : (backTo p₂ (starEach rest env)).any (·.1) = false) : wpAny (model PR w) A (eval (.Call (.Name x p₁) (e :: rest) [] p₂) env) Q E s :=
  Call_ (nameDef H F hx hb e' (callWith_K (first := []) H.W.X kk h he hplain))
theorem callBt {s : Shared} {args : List Expr} (_ : (["len", "int", "abs", "min", "max", "bytes", "range", "list", "zip", "isinstance"] : List Str).contains x = true) (h : wpAny (model PR w) A (eval (.Name x p₁) env) (fun f s₁ => wpAny (model PR w) A (callWith p₂ f [] (backTo p₂ (starEach args env)) []) Q E s₁) E s) : wpAny (model PR w) A (eval (.Call (.Name x p₁) args [] p₂) env) Q E s := Call_ h
theorem callN0 {s : Shared} (H : Here w env g L) (F : Fr g L s.heap m) (hx : env.kindOf x = some .globalImplicit) (hb : (x == ("__debug__" : Str)) = false) (e' : nsIn (hd.heap_39 w.params) mainGlobals x = some (some (.ref f))) (kk : keepIn (hd.heap_39 w.params) (.ref f) = true)
    (h : wpAny (model PR w) A (call (.ref f) []) Q E s) : wpAny (model PR w) A (eval (.Call (.Name x p₁) [] [] p₂) env) Q E s :=
  Call_ (nameDef H F hx hb e' (callWith_K0 (first := []) (H.W.X.keeps F.keep) kk h))
theorem callG1 {s : Shared} {e₁ : Expr} (H : Here w env g L) (F : Fr g L s.heap m) (hx : env.kindOf x = some .globalImplicit) (hb : (x == ("__debug__" : Str)) = false) (e' : nsIn (hd.heap_39 w.params) mainGlobals x = some (some (.ref f))) (kk : keepIn (hd.heap_39 w.params) (.ref f) = true) (he : starEach [e₁] env = (false, eval e₁ env) :: starEach [] env)
    (h : wpAny (model PR w) A (eval e₁ env) (fun v s₁ => (hd.heap_39 w.params).In s₁.heap ∧ wpAny (model PR w) A (call (.ref f) [v]) Q E s₁) E s) : wpAny (model PR w) A (eval (.Call (.Name x p₁) [e₁] [] p₂) env) Q E s :=
  callW H F hx hb e' kk (args_cons (wpAny_mono h (fun v s₁ k => args_nil k) fun _ _ k => k) he) he rfl
theorem callG2 {s : Shared} {e₁ e₂ : Expr} (H : Here w env g L) (F : Fr g L s.heap m) (hx : env.kindOf x = some .globalImplicit) (hb : (x == ("__debug__" : Str)) = false) (e' : nsIn (hd.heap_39 w.params) mainGlobals x = some (some (.ref f))) (kk : keepIn (hd.heap_39 w.params) (.ref f) = true) (he1 : starEach [e₁, e₂] env = (false, eval e₁ env) :: starEach [e₂] env) (he2 : starEach [e₂] env = (false, eval e₂ env) :: starEach [] env)
    (h : wpAny (model PR w) A (eval e₁ env) (fun v₁ s₁ => wpAny (model PR w) A (eval e₂ env) (fun v₂ s₂ => (hd.heap_39 w.params).In s₂.heap ∧ wpAny (model PR w) A (call (.ref f) [v₁, v₂]) Q E s₂) E s₁) E s) : wpAny (model PR w) A (eval (.Call (.Name x p₁) [e₁, e₂] [] p₂) env) Q E s := by
  exact callW H F hx hb e' kk (args_cons (wpAny_mono h (fun v s₁ k => args_cons (wpAny_mono k (fun v s₁ k => args_nil k) fun _ _ k => k) he2) fun _ _ k => k) he1) he1 (by rw [he2]; rfl)
theorem callN1 {s : Shared} (H : Here w env g L) (F : Fr g L s.heap m) (hx : env.kindOf x = some .globalImplicit) (hb : (x == ("__debug__" : Str)) = false) (e' : nsIn (hd.heap_39 w.params) mainGlobals x = some (some (.ref f))) (kk : keepIn (hd.heap_39 w.params) (.ref f) = true) (l₁ : isLoc env y = true) (e₁ : m y = some v₁)
    (h : wpAny (model PR w) A (call (.ref f) [v₁]) Q E s) : wpAny (model PR w) A (eval (.Call (.Name x p₁) [.Name y p] [] p₂) env) Q E s :=
  callG1 H F hx hb e' kk rfl (nameLoc H F l₁ e₁ ⟨H.W.X.keeps F.keep, h⟩)
theorem callN2 {s : Shared} (H : Here w env g L) (F : Fr g L s.heap m) (hx : env.kindOf x = some .globalImplicit) (hb : (x == ("__debug__" : Str)) = false) (e' : nsIn (hd.heap_39 w.params) mainGlobals x = some (some (.ref f))) (kk : keepIn (hd.heap_39 w.params) (.ref f) = true) (l₁ : isLoc env y = true) (e₁ : m y = some v₁) (l₂ : isLoc env z = true) (e₂ : m z = some v₂)
    (h : wpAny (model PR w) A (call (.ref f) [v₁, v₂]) Q E s) : wpAny (model PR w) A (eval (.Call (.Name x p₁) [.Name y p, .Name z p₃] [] p₂) env) Q E s :=
  callG2 H F hx hb e' kk rfl rfl (nameLoc H F l₁ e₁ (nameLoc H F l₂ e₂ ⟨H.W.X.keeps F.keep, h⟩))
theorem callNC {i : Int} {k : Nat} (H : Here w env g L) (F : Fr g L hh m) (hx : env.kindOf x = some .globalImplicit) (hb : (x == ("__debug__" : Str)) = false) (e' : nsIn (hd.heap_39 w.params) mainGlobals x = some (some (.ref f))) (kk : keepIn (hd.heap_39 w.params) (.ref f) = true) (l₁ : isLoc env y = true) (e₁ : m y = some v₁)
    (h : wpAny (model PR w) A (call (.ref f) [v₁, .int i tk]) Q E ⟨hh, ge, dr, tk + 1, os⟩) : wpAny (model PR w) A (eval (.Call (.Name x p₁) [.Name y p, .Constant (.int i) k p₃] [] p₂) env) Q E ⟨hh, ge, dr, tk, os⟩ :=
  callG2 (s := ⟨hh, ge, dr, tk, os⟩) H F hx hb e' kk rfl rfl (nameLoc H F l₁ e₁ (wpAny_Constant_int ⟨H.W.X.keeps F.keep, h⟩))
theorem callN3 {s : Shared} (H : Here w env g L) (F : Fr g L s.heap m) (hx : env.kindOf x = some .globalImplicit) (hb : (x == ("__debug__" : Str)) = false) (e' : nsIn (hd.heap_39 w.params) mainGlobals x = some (some (.ref f))) (kk : keepIn (hd.heap_39 w.params) (.ref f) = true) {z' : Str} (l₁ : isLoc env y = true) (e₁ : m y = some v₁) (l₂ : isLoc env z = true) (e₂ : m z = some v₂) (l₃ : isLoc env z' = true) (e₃ : m z' = some v₃)
    (h : wpAny (model PR w) A (call (.ref f) [v₁, v₂, v₃]) Q E s) : wpAny (model PR w) A (eval (.Call (.Name x p₁) [.Name y p, .Name z p₃, .Name z' p₄] [] p₂) env) Q E s :=
  callW H F hx hb e' kk (args_cons (nameLoc H F l₁ e₁ (args_cons (nameLoc H F l₂ e₂ (args_cons (nameLoc H F l₃ e₃ (args_nil ⟨H.W.X.keeps F.keep, h⟩))))))) rfl rfl
theorem binNN {op : Operator} {s : Shared} (H : Here w env g L) (F : Fr g L s.heap m) (l₁ : isLoc env y = true) (e₁ : m y = some v₁) (l₂ : isLoc env z = true) (e₂ : m z = some v₂) (h : wpAny (model PR w) A (binaryOp op v₁ v₂) Q E s) : wpAny (model PR w) A (eval (.BinOp (.Name y p) op (.Name z p₁) p₂) env) Q E s :=
  wpAny_BinOp (nameLoc H F l₁ e₁ (nameLoc H F l₂ e₂ h))
theorem binNC {op : Operator} {i : Int} {k : Nat} (H : Here w env g L) (F : Fr g L hh m) (l₁ : isLoc env y = true) (e₁ : m y = some v₁) (h : wpAny (model PR w) A (binaryOp op v₁ (.int i tk)) Q E ⟨hh, ge, dr, tk + 1, os⟩) : wpAny (model PR w) A (eval (.BinOp (.Name y p) op (.Constant (.int i) k p₁) p₂) env) Q E ⟨hh, ge, dr, tk, os⟩ :=
  wpAny_BinOp (nameLoc H F l₁ e₁ (wpAny_Constant_int h))
theorem binCN {op : Operator} {i : Int} {k : Nat} (H : Here w env g L) (F : Fr g L hh m) (l₁ : isLoc env y = true) (e₁ : m y = some v₁) (h : wpAny (model PR w) A (binaryOp op (.int i tk) v₁) Q E ⟨hh, ge, dr, tk + 1, os⟩) : wpAny (model PR w) A (eval (.BinOp (.Constant (.int i) k p₁) op (.Name y p) p₂) env) Q E ⟨hh, ge, dr, tk, os⟩ :=
  wpAny_BinOp (wpAny_Constant_int (nameLoc H F l₁ e₁ h))
theorem tstNN {op : CmpOp} {s : Shared} {whole : Sem Value} {Q : Bool → Shared → Prop} (H : Here w env g L) (F : Fr g L s.heap m) (l₁ : isLoc env y = true) (e₁ : m y = some v₁) (l₂ : isLoc env z = true) (e₂ : m z = some v₂) (hm : behindInMarks op (.Name z p₁) = false)
    (h : wpAny (model PR w) A (compareOp op v₁ v₂) (fun c s₃ => wpAny (model PR w) A (truthy c) Q E s₃) E s) : wpAny (model PR w) A (isTrue (.Compare (.Name y p) [op] [.Name z p₁] p₂) env whole) Q E s :=
  wpAny_isTrue_Compare1 (nameLoc H F l₁ e₁ (nameLoc H F l₂ e₂ h)) hm
theorem tstNC {op : CmpOp} {i : Int} {k : Nat} {whole : Sem Value} {Q : Bool → Shared → Prop} (H : Here w env g L) (F : Fr g L hh m) (l₁ : isLoc env y = true) (e₁ : m y = some v₁) (hm : behindInMarks op (.Constant (.int i) k p₁) = false)
    (h : wpAny (model PR w) A (compareOp op v₁ (.int i tk)) (fun c s₃ => wpAny (model PR w) A (truthy c) Q E s₃) E ⟨hh, ge, dr, tk + 1, os⟩) : wpAny (model PR w) A (isTrue (.Compare (.Name y p) [op] [.Constant (.int i) k p₁] p₂) env whole) Q E ⟨hh, ge, dr, tk, os⟩ :=
  wpAny_isTrue_Compare1 (nameLoc H F l₁ e₁ (wpAny_Constant_int h)) hm
theorem constI {i : Int} {k : Nat} (h : Q (.int i tk) ⟨hh, ge, dr, tk + 1, os⟩) : wpAny (model PR w) A (eval (.Constant (.int i) k p) env) Q E ⟨hh, ge, dr, tk, os⟩ := wpAny_Constant_int h
end
theorem fill_J (w : World) : PySem.Challenge.rw_pq0409_01 = PySem.Challenge.rw_pq0409_01 ∧ hd.heap_39 w.params = hd.heap_39 w.params := by
  k_fill; exact ⟨rfl, rfl⟩
local macro_rules | `(tactic| walk_at $s:str) => `(tactic| k_extra $s)
local macro_rules | `(tactic| bits_by_make) => `(tactic| k_extra "my bits")
local macro_rules | `(tactic| ktr_call $b:term $c:term) => `(tactic| (refine' enter (binds := $b) $c ?X ?ho ?hB ?hS ?hcd ?hb ?hl ?_ ?h1 ?h2 ?h3 ?h4; k_extra "my enter"))
local macro_rules | `(tactic| k_ne) => `(tactic| k_extra "k ne")
local macro_rules | `(tactic| k_lt $h:ident) => `(tactic| (replace $h := allLt_of $h; dsimp only [AllLt] at $h:ident))
local macro_rules | `(tactic| k_all) => `(tactic| k_extra "k all")
local macro_rules | `(tactic| k_in) => `(tactic| first | with_reducible assumption | exact Frag.In.keeps (by k_asm) (Fr.keep (by k_asm)) | assumption)

theorem reg0 : True := by
  k_with "my enter" => (((case X => assumption); k_extra "zE"; (case hb => exact BindsTo.of_eq rfl); k_extra "zF"; (intro L' h₁ tk₁ mean mg mb m₁ F N X T R' env' A'); (refine withP (Here.of (env := env') (L := L') X T rfl rfl rfl) ?_; intro zHe); k_fold))
  k_with "my enterF" => ((k_extra "zE"; (case hb => exact fun s => BindsTo.of_eq rfl); k_extra "zF"; (intro s Q E dp un gd outer V K tg n1 vs n2 hI hQ L' h₁ tk₁ mean mg mb m₁ g₁ nx₁ F N X T R' env' A'); (refine withP (Here.of (env := env') (L := L') X T rfl rfl rfl) ?_; intro zHe); k_fold))
  k_with "my auto" => (repeat' (first | (k_unfold; (try dsimp only)) | (k_extra "my name") | walk1 | (dsimp only; walk1) | fail "no step"))
  k_with "no loop" => (((fail_if_success (with_reducible show wpAny _ _ (exec (Stmt.While _ _ _ _) _) _ _ _)); (fail_if_success (with_reducible show wpAny _ _ (pyIter _) _ _ _))))
  k_with "my steps" => (repeat' (first | (k_unfold; (try dsimp only)) | (k_extra "my name") | (k_extra "no loop"; walk1) | (k_extra "no loop"; dsimp only; walk1) | fail "no step"))
  k_with "my list" => (first | exact True.intro | exact IsL.ofNews (by k_asm) (by k_mem) (by l_ints) | exact IsL.ofOld (by k_asm) (by assumption))
  k_with "my back" => (first
  | refine retI (by assumption) (by assumption) ?_
  | refine retB (by assumption) (by assumption) ?_
  | refine retY (by assumption) (by assumption) (by assumption) ?_
  | refine retL (by assumption) (by assumption) (by assumption) (by k_mem) (by l_ints) ?_
  | refine retT (by assumption) (by assumption) (by assumption) (by k_mem) ?_ ?_
  | refine retT3 (by assumption) (by assumption) (by assumption) (by k_mem) ?_ ?_ ?_)
  k_with "my for" => ((k_here; (rename Fr _ _ _ _ => lF'); (with_unfolding_all refine' For_invVF lF' ?k1 ?k2 ?_; (case k1 => exact rfl); (case k2 => exact rfl); k_whole)))
  k_with "exec For Name Subscript cons nil" => ((k_extra "my for"))
  k_with "exec For Name Name cons nil" => ((k_extra "my for"))
  k_with "exec For Name Call cons nil" => ((k_extra "my for"))
  k_with "my pre" => ((k_extra "my list"))
  k_with "my nz" => (first | assumption | decide | k_extra "my om" | (split <;> k_extra "my om"))
  k_with "binaryOp FloorDiv int int" => ((k_dflt (refine' floordiv_int ?k1 ?_ (Or.inl (PyProof.noPylong_of_log2 ?k3)); (case k1 => k_extra "my nz"); (case k3 => first | assumption | decide +kernel | k_extra "my om"))))
  k_with "binaryOp Mod int int" => ((k_dflt (refine' mod_int' ?k1 ?_; (case k1 => k_extra "my nz"))))
  k_with "my bits" => (with_reducible assumption)
  k_with "exec While Compare cons nil" => ((k_extra "while"))
  k_with "binaryOp LShift int int" => ((k_dflt (refine' lshift_int ?k1 ?k2 ?_; (case k1 => first | assumption | decide | k_extra "my om"); (case k2 => first | k_extra "my om" | decide +kernel))))
  k_with "binaryOp RShift int int" => ((k_dflt (refine' rshift_int ?k1 ?_; (case k1 => first | assumption | decide | k_extra "my om"))))
  k_with "my fin" => (((repeat' (first | rw [if_pos (by first | assumption | k_extra "my om")] | rw [if_neg (by first | assumption | k_extra "my om")])); first | done | rfl | k_extra "my om"))
  k_with "my rows" => (first | exact List.forall_mem_nil _ | (refine allC (by with_unfolding_all rfl) ?_; k_extra "my rows"))
  k_with "my own" => (first | assumption | (refine List.mem_append.mpr (.inr ?_); k_extra "my own") | (refine List.Mem.tail _ ?_; k_extra "my own"))
  k_with "my led" => (first | exact List.forall_mem_nil _ | (refine allC (by k_memK) ?_; k_extra "my led") | (intro p9 h9; k_extra "my own"))
  k_with "WPost" => ((dsimp only [WPost]))
  k_with "FPost" => ((dsimp only [FPost]))
  k_with "my words" => (repeat' (first | (k_unfold; (try dsimp only)) | (k_extra "my name") | (k_extra "no loop"; walk1) | (k_extra "no loop"; dsimp only; walk1) | (k_extra "loop") | fail "no step"))
  k_with "subscriptTail Name Slice ref ref" => ((k_here; (with_reducible show wpAny _ _ (subscriptTail _ (PySem.Expr.Slice _ _ none _) (Value.ref _) (Value.ref _)) _ _ _); k_dflt (refine' kmk_slice_ints ?F ?N ?l ?p ?q ?i ?m rfl ?_ ?s ?t ?z; (case F => k_asm); (case N => k_asm); (case l => kmk_list); (case p => kmk_part); (case q => kmk_part); (case i => l_ints); (case m => kmk_nums); (case s => with_unfolding_all rfl); (case t => kmk_pure); (case z => kmk_size)); intro D' ws' h' F' N' l1 hI' hC' hL'; clear hC' hL'; (try simp only [Int.reduceNeg, Int.neg_neg, Int.reduceToNat] at hI'); (try k_lt l1); (try k_sweep)))
  k_with "my len" => (first | k_extra "my om" | ((simp only [List.length_take, List.length_drop, List.length_append, List.length_replicate, List.length_reverse, List.length_cons, List.length_nil, List.length_map]); k_extra "my om"))
  k_with "call builtin:len" => ((k_here; (with_reducible show wpAny _ _ (call (Value.builtin _) [Value.ref _]) _ _ _); k_dflt (refine' len_ints_fit ?k1 ?k2 ?k3 ?_; (case k1 => is_list); (case k2 => l_ints); (case k3 => k_extra "my len"); k_whole)))
  k_with "my comp" => (repeat' (first | (k_unfold; (try dsimp only)) | (k_extra "my name") | (k_extra "no loop"; k_extra "no comp"; walk1) | (k_extra "no loop"; k_extra "no comp"; dsimp only; walk1) | (k_extra "loop") | fail "no step"))
  k_with "no comp" => ((fail_if_success (with_reducible show wpAny _ _ (eval (Expr.ListComp _ _ _ _) _) _ _ _)))
  k_with "compareOp Eq ref ref" => ((k_here; (with_reducible show wpAny _ _ (compareOp CmpOp.Eq (Value.ref _) (Value.ref _)) _ _ _); (with_unfolding_all refine' eq_intsK ?k1 ?k2 ?k3 ?k4 ?k5 ?_; (case k1 => is_list); (case k2 => l_intsC); (case k3 => is_list); (case k4 => l_intsC); (case k5 => exact room_eq (by assumption)); k_whole)))
  k_with "compareOp NotEq ref ref" => ((k_here; (with_reducible show wpAny _ _ (compareOp CmpOp.NotEq (Value.ref _) (Value.ref _)) _ _ _); (with_unfolding_all refine' ne_intsK ?k1 ?k2 ?k3 ?k4 ?k5 ?_; (case k1 => is_list); (case k2 => l_intsC); (case k3 => is_list); (case k4 => l_intsC); (case k5 => exact room_eq (by assumption)); k_whole)))
  k_with "storeName" => ((k_here; k_dflt (refine' storeY ?F ?N ?_ ?a ?b; (case F => k_asm); (case N => k_asm); (case a => rfl); (case b => rfl); k_whole); intro h' tk' m' F' N'; (try k_sweep)))
  k_with "k ne" => ((refine neN ?_; (try dsimp only); first | with_reducible assumption | (refine Ne.symm ?_; with_reducible assumption) | ((simp only [*, ne_eq, not_false_eq_true]); done) | (refine Ne.symm ?_; (simp only [*, ne_eq, not_false_eq_true]); done) | omega))
  k_with "my nones" => ((repeat (first | (with_reducible rename @Ne Nat _ _ => zz; clear zz) | (with_reducible rename And (@Ne Nat _ _) _ => zz; clear zz))))
  k_with "my om" => ((k_extra "my nones"; omega))
  k_with "my name" => (((fail_if_success (fail_if_success k_fold)); (first | (fail_if_success (fail_if_success (with_reducible show wpAny _ _ (exec _ _) _ _ _))) | ((fail_if_success (fail_if_success (with_reducible show wpAny _ _ (eval (Expr.Call _ _ _ _) _) _ _ _))); k_extra "no plain call") | (fail_if_success (fail_if_success (with_reducible show wpAny _ _ (eval (Expr.Tuple _ _ _) _) _ _ _))) | ((fail_if_success (fail_if_success (with_reducible show wpAny _ _ (eval (Expr.BinOp _ _ _ _) _) _ _ _))); k_extra "no plain bin") | (fail_if_success (fail_if_success (with_reducible show wpAny _ _ (eval (Expr.IfExp _ _ _ _) _) _ _ _)))); refine nameQ ?_; intro qn))
  k_with "my he" => (first | with_reducible assumption | exact Here.of (by k_asm) (by k_asm) rfl rfl rfl)
  k_with "eval BinOp" => ((k_here; (with_reducible show wpAny _ _ (eval (Expr.BinOp (Expr.Name _ _) _ (Expr.Name _ _) _) _) _ _ _); k_dflt (refine' binNN ?zH ?zF ?zl1 ?zv1 ?zl2 ?zv2 ?_; (case zF => k_asm); k_extra "z1"; k_extra "z2"; (case zH => k_extra "my he"); k_whole)))
  k_with "eval BinOp" => ((k_here; (with_reducible show wpAny _ _ (eval (Expr.BinOp (Expr.Name _ _) _ (Expr.Constant (Const.int _) _ _) _) _) _ _ _); k_dflt (refine' binNC ?zH ?zF ?zl1 ?zv1 ?_; (case zF => k_asm); k_extra "z1"; (case zH => k_extra "my he"); k_whole)))
  k_with "eval BinOp" => ((k_here; (with_reducible show wpAny _ _ (eval (Expr.BinOp (Expr.Constant (Const.int _) _ _) _ (Expr.Name _ _) _) _) _ _ _); k_dflt (refine' binCN ?zH ?zF ?zl1 ?zv1 ?_; (case zF => k_asm); k_extra "z1"; (case zH => k_extra "my he"); k_whole)))
  k_with "isTrue Compare" => ((k_here; (with_reducible show wpAny _ _ (isTrue (Expr.Compare (Expr.Name _ _) [_] [Expr.Name _ _] _) _ _) _ _ _); k_dflt (refine' tstNN ?zH ?zF ?zl1 ?zv1 ?zl2 ?zv2 ?zm ?_; (case zF => k_asm); k_extra "z1"; k_extra "z2"; (case zm => with_unfolding_all rfl); (case zH => k_extra "my he"); k_whole)))
  k_with "isTrue Compare" => ((k_here; (with_reducible show wpAny _ _ (isTrue (Expr.Compare (Expr.Name _ _) [_] [Expr.Constant (Const.int _) _ _] _) _ _) _ _ _); k_dflt (refine' tstNC ?zH ?zF ?zl1 ?zv1 ?zm ?_; (case zF => k_asm); k_extra "z1"; (case zm => with_unfolding_all rfl); (case zH => k_extra "my he"); k_whole)))
  k_with "eval Call Name" => ((k_here; (with_reducible show wpAny _ _ (eval (Expr.Call (Expr.Name _ _) [_, _] [] _) _) _ _ _); k_dflt (refine' callG2 ?zH ?zF ?zx ?zb ?ze ?zk ?zh1 ?zh2 ?_; k_extra "zc"; (case zh1 => exact rfl); (case zh2 => exact rfl); (case zH => k_extra "my he"); k_whole)))
  k_with "eval Call Name" => ((k_here; (with_reducible show wpAny _ _ (eval (Expr.Call (Expr.Name _ _) [_] [] _) _) _ _ _); k_dflt (refine' callG1 ?zH ?zF ?zx ?zb ?ze ?zk ?zh1 ?_; k_extra "zc"; (case zh1 => exact rfl); (case zH => k_extra "my he"); k_whole)))
  k_with "eval Call Name" => ((k_here; (with_reducible show wpAny _ _ (eval (Expr.Call (Expr.Name _ _) [] [] _) _) _ _ _); k_dflt (refine' callN0 ?zH ?zF ?zx ?zb ?ze ?zk ?_; k_extra "zc"; (case zH => k_extra "my he"); k_whole)))
  k_with "eval Call Name" => ((k_here; (with_reducible show wpAny _ _ (eval (Expr.Call (Expr.Name _ _) [Expr.Name _ _, Expr.Name _ _, Expr.Name _ _] [] _) _) _ _ _); k_dflt (refine' callN3 ?zH ?zF ?zx ?zb ?ze ?zk ?zl1 ?zv1 ?zl2 ?zv2 ?zl3 ?zv3 ?_; k_extra "zc"; k_extra "z1"; k_extra "z2"; k_extra "z3"; (case zH => k_extra "my he"); k_whole)))
  k_with "eval Call Name" => ((k_here; (with_reducible show wpAny _ _ (eval (Expr.Call (Expr.Name _ _) [Expr.Name _ _, Expr.Constant (Const.int _) _ _] [] _) _) _ _ _); k_dflt (refine' callNC ?zH ?zF ?zx ?zb ?ze ?zk ?zl1 ?zv1 ?_; k_extra "zc"; k_extra "z1"; (case zH => k_extra "my he"); k_whole)))
  k_with "eval Call Name" => ((k_here; (with_reducible show wpAny _ _ (eval (Expr.Call (Expr.Name _ _) [Expr.Name _ _, Expr.Name _ _] [] _) _) _ _ _); k_dflt (refine' callN2 ?zH ?zF ?zx ?zb ?ze ?zk ?zl1 ?zv1 ?zl2 ?zv2 ?_; k_extra "zc"; k_extra "z1"; k_extra "z2"; (case zH => k_extra "my he"); k_whole)))
  k_with "eval Call Name" => ((k_here; (with_reducible show wpAny _ _ (eval (Expr.Call (Expr.Name _ _) [Expr.Name _ _] [] _) _) _ _ _); k_dflt (refine' callN1 ?zH ?zF ?zx ?zb ?ze ?zk ?zl1 ?zv1 ?_; k_extra "zc"; k_extra "z1"; (case zH => k_extra "my he"); k_whole)))
  k_with "eval Constant int" => ((refine constI ?_))
  k_with "eval Name" => ((k_here; (with_reducible show wpAny _ _ (eval (Expr.Name _ _) _) _ _ _); k_dflt (refine' nameLoc ?zqzH ?zqzF ?zqzl1 ?zqzv1 ?_; (case zqzF => k_asm); k_extra "z1"; (case zqzH => k_extra "my he"); k_whole)))
  k_with "k all" => (first | exact List.forall_mem_nil _ | (refine' allC ?a ?b; (case a => k_ne); (case b => k_extra "k all")))
  k_with "no plain bin" => ((fail_if_success (first | (with_reducible show wpAny _ _ (eval (Expr.BinOp (Expr.Name _ _) _ (Expr.Name _ _) _) _) _ _ _) | (with_reducible show wpAny _ _ (eval (Expr.BinOp (Expr.Name _ _) _ (Expr.Constant (Const.int _) _ _) _) _) _ _ _) | (with_reducible show wpAny _ _ (eval (Expr.BinOp (Expr.Constant (Const.int _) _ _) _ (Expr.Name _ _) _) _) _ _ _))))
  k_with "no plain call" => ((fail_if_success (first | (with_reducible show wpAny _ _ (eval (Expr.Call (Expr.Name _ _) [] [] _) _) _ _ _) | (with_reducible show wpAny _ _ (eval (Expr.Call (Expr.Name _ _) [Expr.Name _ _] [] _) _) _ _ _) | (with_reducible show wpAny _ _ (eval (Expr.Call (Expr.Name _ _) [Expr.Name _ _, Expr.Name _ _] [] _) _) _ _ _) | (with_reducible show wpAny _ _ (eval (Expr.Call (Expr.Name _ _) [Expr.Name _ _, Expr.Constant (Const.int _) _ _] [] _) _) _ _ _) | (with_reducible show wpAny _ _ (eval (Expr.Call (Expr.Name _ _) [Expr.Name _ _, Expr.Name _ _, Expr.Name _ _] [] _) _) _ _ _))))
  k_with "my ctx" => (((case kR => assumption); (case kF => k_asm); (case kN => k_asm); (case kX => k_asm); (case kT => k_asm)))
  k_with "my std" => ((k_extra "my ctx"; (case kp => k_extra "my pre")))
  k_with "zc" => (((case zF => k_asm); (case zx => exact Eq.refl (some NameKind.globalImplicit)); (case zb => decide); (case ze => k_is); (case zk => k_is)))
  k_with "eval Call Attribute" => ((refine MethodCall_ ?_))
  k_with "callWith" => (((fail_if_success (fail_if_success (with_reducible show wpAny _ _ (callWith _ (Value.builtin _) [] (backTo _ (starEach (_ :: _) _)) []) _ _ _))); k_dflt (refine PyProof.Rows.callWith_builtin1 ?_)))
  k_with "callWith" => (((fail_if_success (fail_if_success (with_reducible show wpAny _ _ (callWith _ (Value.builtin _) (_ :: _) (backTo _ (starEach (_ :: _) _)) []) _ _ _))); k_dflt (refine PyProof.Rows.callWith_method1 ?_)))
  k_with "eval Call Name" => ((k_dflt (refine callBt (by decide +kernel) ?_)))
  k_with "z1" => (((case zl1 => exact Eq.refl true); (case zv1 => rfl)))
  k_with "z2" => (((case zl2 => exact Eq.refl true); (case zv2 => rfl)))
  k_with "z3" => (((case zl3 => exact Eq.refl true); (case zv3 => rfl)))
  k_with "zE" => (((case ho => k_is); (case hB => exact (rfl : List.cons _ _ = List.cons _ _)); (case hS => exact (rfl : Scope.mk _ _ _ _ _ = Scope.mk _ _ _ _ _)); (case hcd => k_is)))
  k_with "zF" => (((case hl => exact Eq.refl true); (case h1 => rfl); (case h2 => rfl); (case h3 => rfl); (case h4 => exact Eq.refl true)))
  trivial
section WordsS
noncomputable abbrev WORD : Int := 115792089237316195423570985008687907853269984665640564039457584007913129639936
noncomputable abbrev HALF : Int := 57896044618658097711785492504343953926634992332820282019728792003956564819968
noncomputable abbrev ADDR : Int := 1461501637330902918203684832716283019655932542976
noncomputable abbrev absI (x : Int) : Int := if x < 0 then -x else x
noncomputable def withSign (w : Int) : Int := if w ≥ HALF then w - WORD else w
noncomputable def sgnQuot (a b : Int) : Int := if withSign b = 0 then 0 else (if decide (withSign a < 0) = decide (withSign b < 0) then (absI (withSign a)).fdiv (absI (withSign b)) else 0 - (absI (withSign a)).fdiv (absI (withSign b))).fmod WORD
noncomputable def sgnRest (a b : Int) : Int := if withSign b = 0 then 0 else (if withSign a < 0 then 0 - (absI (withSign a)).fmod (absI (withSign b)) else (absI (withSign a)).fmod (absI (withSign b))).fmod WORD
theorem sgnRest_0 {a b : Int} (h : withSign b = 0) : sgnRest a b = 0 := by unfold sgnRest; rw [if_pos h]
theorem sgnRest_n {a b : Int} (h : withSign b ≠ 0) (ha : withSign a < 0) : sgnRest a b = (0 - (absI (withSign a)).fmod (absI (withSign b))).fmod WORD := by unfold sgnRest; rw [if_neg h, if_pos ha]
theorem sgnRest_p {a b : Int} (h : withSign b ≠ 0) (ha : ¬ withSign a < 0) : sgnRest a b = ((absI (withSign a)).fmod (absI (withSign b))).fmod WORD := by unfold sgnRest; rw [if_neg h, if_neg ha]
theorem fmodW (x : Int) : x.fmod WORD = x % WORD := Int.fmod_eq_emod_of_nonneg _ (by decide)
structure PowInv (a b found base left : Int) : Prop where
  l0 : 0 ≤ left
  fb : Builtin.Int.intBits found ≤ 256
  bb : Builtin.Int.intBits base ≤ 256
  eq : (found * base ^ left.toNat) % WORD = a ^ b.toNat % WORD
  f0 : 0 ≤ found
  f1 : found < WORD
theorem intBits_mod (x : Int) : Builtin.Int.intBits (x.fmod WORD) ≤ 256 := by
  rw [intBits_le_iff]
  have h1 : x.fmod WORD = x % WORD := Int.fmod_eq_emod_of_nonneg _ (by decide)
  have h2 := Int.emod_nonneg x (show WORD ≠ 0 by decide)
  have h3 := Int.emod_lt_of_pos x (show 0 < WORD by decide)
  rw [h1]
  have : (2 ^ 256 : Nat) = WORD.toNat := by decide +kernel
  rw [this]
  simp only [WORD] at *
  (first | lia | omega)
theorem PowInv.start {a b : Int} (ha : Builtin.Int.intBits a ≤ 256) (hb : 0 ≤ b) : PowInv a b 1 a b :=
  ⟨hb, by decide +kernel, ha, by rw [Int.one_mul], by decide, by decide⟩
theorem mod_mul_l (x y : Int) : (x % WORD * y) % WORD = (x * y) % WORD := by rw [Int.mul_emod, Int.emod_emod_of_dvd _ (Int.dvd_refl _), ← Int.mul_emod]
theorem mod_mul_r (x y : Int) : (x * (y % WORD)) % WORD = (x * y) % WORD := by rw [Int.mul_emod, Int.emod_emod_of_dvd _ (Int.dvd_refl _), ← Int.mul_emod]
theorem mod_pow (x : Int) : ∀ n : Nat, ((x % WORD) ^ n) % WORD = x ^ n % WORD
  | 0 => by rw [Int.pow_zero, Int.pow_zero]
  | n + 1 => by rw [Int.pow_succ, Int.pow_succ, mod_mul_r, Int.mul_emod, mod_pow x n, ← Int.mul_emod]
theorem PowInv.odd {a b found base left : Int} (h : PowInv a b found base left) (hl : left > 0) (ho : left.fmod 2 = 1) : PowInv a b ((found * base).fmod WORD) ((base * base).fmod WORD) (left.fdiv 2) := by
  have e1 : left.fmod 2 = left % 2 := Int.fmod_eq_emod_of_nonneg _ (by decide)
  have e2 : left.fdiv 2 = left / 2 := Int.fdiv_eq_ediv_of_nonneg _ (by decide)
  refine ⟨by rw [e2]; (first | lia | omega), intBits_mod _, intBits_mod _, ?_, by rw [fmodW]; exact Int.emod_nonneg _ (by decide), by rw [fmodW]; exact Int.emod_lt_of_pos _ (by decide)⟩
  rw [← h.eq, e2, fmodW, fmodW, mod_mul_l, Int.mul_emod, mod_pow, ← Int.mul_emod]
  have e3 : left.toNat = 2 * (left / 2).toNat + 1 := by (first | lia | omega)
  rw [e3, Int.pow_succ, Int.pow_mul, Int.pow_succ, Int.pow_succ, Int.pow_zero, Int.one_mul]
  congr 1
  rw [Int.mul_assoc, Int.mul_comm base]
theorem PowInv.even {a b found base left : Int} (h : PowInv a b found base left) (hl : left > 0) (ho : left.fmod 2 ≠ 1) : PowInv a b found ((base * base).fmod WORD) (left.fdiv 2) := by
  have e1 : left.fmod 2 = left % 2 := Int.fmod_eq_emod_of_nonneg _ (by decide)
  have e2 : left.fdiv 2 = left / 2 := Int.fdiv_eq_ediv_of_nonneg _ (by decide)
  refine ⟨by rw [e2]; (first | lia | omega), h.fb, intBits_mod _, ?_, h.f0, h.f1⟩
  rw [← h.eq, e2, fmodW, Int.mul_emod, mod_pow, ← Int.mul_emod]
  have e3 : left.toNat = 2 * (left / 2).toNat := by (first | lia | omega)
  rw [e3, Int.pow_mul, Int.pow_succ, Int.pow_succ, Int.pow_zero, Int.one_mul]
theorem PowInv.done {a b found base left : Int} (h : PowInv a b found base left) (hl : ¬ left > 0) : found = (a ^ b.toNat).fmod WORD := by
  have := h.l0
  have e : left = 0 := by (first | lia | omega)
  have q := h.eq
  rw [e] at q
  rw [fmodW, ← q]
  simp only [Int.toNat_zero, Int.pow_zero, Int.mul_one]
  exact (Int.emod_eq_of_lt h.f0 h.f1).symm
theorem reg1 : True := by
  k_with "my bits" => (first | exact PowInv.fb (by with_reducible assumption) | exact PowInv.bb (by with_reducible assumption))
  trivial
theorem two_pow_pos (n : Nat) : (0:Int) < 2 ^ n := Int.pow_pos (by decide)
theorem two_pow_dbl_ne (n : Nat) : (1 * 2 ^ n + 1 * 2 ^ n : Int) ≠ 0 := by
  have h := two_pow_pos n
  generalize (2:Int) ^ n = z at *
  omega
theorem reg2 : True := by
  k_with "my nz" => (exact two_pow_dbl_ne _)
  trivial
section
open Builtin Builtin.Int
variable {prog : Program} {w : World} {A : Around} {E : Value → Shared → Prop} {s : Shared} {x : Int} {t u v : Tok}
theorem ite_off {α : Type} {c : Bool} {a b : Sem α} {Q : α → Shared → Prop} {M : Model} (hc : c = false) (h : wpAny M A b Q E s) : wpAny M A (if c = true then a else b) Q E s := by subst hc; exact h
theorem ite_on {α : Type} {c : Bool} {a b : Sem α} {Q : α → Shared → Prop} {M : Model} (hc : c = true) (h : wpAny M A a Q E s) : wpAny M A (if c = true then a else b) Q E s := by subst hc; exact h
theorem to_bytes32 {Q : Value → Shared → Prop} (h0 : 0 ≤ x) (h1 : x < (256 : Int) ^ 32) (h : ∀ (b : Array UInt8) t' k', KBw.bInts b = (KTBy.little 32 x).reverse → Q (.bytes b t') { s with toks := k' }) :
    wpAny (model prog w) A (call (.builtin "int.to_bytes") [.int x t, .int 32 u, .str (PySem.Str.ofString "big") v]) Q E s := by
  refine wpAny_call_entry KTBy.slot (typeIs_int s x t) KTBy.entry ?_ (KTBy.args _ _ _)
  have hb := KTBy.bits_le (k := 32) rfl h0 h1
  show wpAny _ _ (intOfSelf (.int x t) >>= fun y => _) _ _ s
  refine wpAny_bind (wpAny_of_eq (a := x) rfl ?_)
  show wpAny _ _ (intBindNamed "to_bytes" ["length", "byteorder", "signed"] 0 2 [.int 32 u, .str (PySem.Str.ofString "big") v] [] >>= fun l => _) _ _ s
  refine wpAny_bind (wpAny_of_eq (a := [some (.int 32 u), some (.str (PySem.Str.ofString "big") v), none]) (by kernel_rfl) ?_)
  show wpAny _ _ (intIndex "int.to_bytes" (.int 32 u) >>= fun n => _) _ _ s
  refine wpAny_bind (wpAny_of_eq (a := (32 : Int)) rfl ?_)
  refine ite_off (by decide) ?_
  refine wpAny_bind (wpAny_of_eq (a := PySem.Str.ofString "big") (by kernel_rfl) ?_)
  refine wpAny_bind (wpAny_of_eq (a := false) rfl ?_)
  refine wpAny_bind (wpAny_of_eq (a := false) (by kernel_rfl) ?_)
  refine wpAny_ite_false (by decide) ?_
  refine wpAny_ite_false (by decide) ?_
  refine wpAny_ite_false (by decide) ?_
  refine ite_off (by show (decide (x < 0) && !false) = false; rw [decide_eq_false (show ¬ x < 0 by (first | lia | omega))]; rfl) ?_
  refine ite_off (by show (_ && decide ((intBits x : Int) > 8 * 32)) = false; rw [decide_eq_false (show ¬ ((intBits x : Int) > 8 * 32) by (first | lia | omega)), Bool.and_false]) ?_
  refine wpAny_bind (wpAny_mkBytes (wpAny_pure ⟨_, rfl, h _ _ _ ?_⟩) (by show (List.reverse (KTBy.low x 32)).length ≤ sizeLine; rw [List.length_reverse, KTBy.low_length, sizeLine_eq]; (first | lia | omega)))
  show (List.map (fun c : UInt8 => ((c.toNat : Nat) : Int)) (List.reverse (KTBy.low x 32))) = (KTBy.little 32 x).reverse
  rw [List.map_reverse, KTBy.low_ints h0 h1, ← KTBy.little_eq]
theorem grown_at {n : Nat} {Q : Value → Shared → Prop} {M : Model} (hn : n < 2 ^ 512) (h : Q (.int (n : Int) s.toks) { s with toks := s.toks + 1 }) : wpAny M A (mkIntGrown (n : Int)) Q E s := by
  unfold mkIntGrown
  have hl : ¬ ((n : Int).natAbs.log2 ≥ bitsLine) := by
    rw [Int.natAbs_natCast]
    have hb : bitsLine = 134217728 := by first | rfl | decide
    by_cases hz : n = 0
    · subst hz; rw [hb]; decide
    · have h1 := (Nat.log2_lt hz).mpr hn
      (first | lia | omega)
  rw [if_neg hl]
  exact wpAny_mkInt h
theorem from_bytes64 {b : Array UInt8} {P : Fin → Shared → Prop} {M : Model} (hl : b.size ≤ 64) (h : P (.done (.ret (.int (KFB.value (KBw.bInts b)) s.toks))) { s with toks := s.toks + 1 }) :
    wpAny M A (Builtin.«int.from_bytes» ⟨[.type "int", .bytes b t, .str (PySem.Str.ofString "big") u], []⟩) P E s := by
  have hv : ((b.toList.foldl (fun (acc : Nat) (b : UInt8) => acc * 256 + b.toNat) 0 : Nat) : Int) = KFB.value (KBw.bInts b) := KFB.fold_cast b.toList 0
  have hn : b.toList.foldl (fun (acc : Nat) (b : UInt8) => acc * 256 + b.toNat) 0 < 2 ^ 512 := by
    have h1 := KFB.fold_lt b.toList 0
    rw [Nat.zero_add, Nat.one_mul, Array.length_toList] at h1
    have h2 : 256 ^ b.size ≤ 256 ^ 64 := Nat.pow_le_pow_right (by decide) hl
    have h3 : (256 : Nat) ^ 64 = 2 ^ 512 := by decide +kernel
    rw [h3] at h2
    exact Nat.lt_of_lt_of_le h1 h2
  unfold Builtin.«int.from_bytes»
  refine wpAny_bind (wpAny_of_eq (a := true) KFB.type_int ?_)
  refine ite_off rfl ?_
  refine wpAny_bind (wpAny_of_eq (a := true) PySem.F.conv_sub_int ?_)
  refine ite_off rfl ?_
  refine wpAny_bind (wpAny_of_eq (a := [some (.bytes b t), some (.str (PySem.Str.ofString "big") u), none]) (by kernel_rfl) ?_)
  refine wpAny_bind (wpAny_of_eq (a := PySem.Str.ofString "big") (by kernel_rfl) ?_)
  refine wpAny_bind (wpAny_of_eq (a := false) rfl ?_)
  refine wpAny_bind (wpAny_of_eq (a := false) (by kernel_rfl) ?_)
  refine wpAny_bind (wpAny_of_eq (a := b) rfl ?_)
  show wpAny _ _ (mkIntGrown (b.toList.foldl (fun (acc : Int) (b : UInt8) => acc * 256 + (b.toNat : Int)) ((0 : Nat) : Int)) >>= fun v => _) _ _ _
  rw [KFB.foldI_eq]
  refine wpAny_bind (grown_at hn ?_)
  rw [hv]
  refine ite_on (by decide +kernel) ?_
  exact wpAny_bind (wpAny_pure (wpAny_pure h))
theorem from_bytes_call {h₀ : Heap} {L : Addr} {news : List (Addr × Obj)} {y : Addr} {b : Array UInt8} {ks : List Int} {Q : Value → Shared → Prop} (N : News h₀ L s.heap news) (hm : (y, KFB.bound) ∈ news) (hb : KBw.bInts b = ks) (hl : ks.length ≤ 64)
    (h : ∀ t' k, Q (.int (KFB.value ks) t') { s with toks := k }) : wpAny (model prog w) A (call (.ref y) [.bytes b t, .str (PySem.Str.ofString "big") u]) Q E s := by
  subst hb
  exact KFB.call_of (KFB.at_of N hm) (fun z => from_bytes64 (by rw [← KBw.ints_length]; exact hl) z) (h _ _)
end
theorem reg3 : True := by
  k_with "my wd" => (first | assumption | (rw [fmodW]; exact Int.emod_nonneg _ (by decide)) | (rw [fmodW]; exact Int.emod_lt_of_pos _ (by decide +kernel)))
  k_with "call builtin:int.to_bytes" => ((refine' to_bytes32 ?k1 ?k2 ?_; (case k1 => k_extra "my wd"); (case k2 => k_extra "my wd"); intro b' t' k' kb'))
  k_with "call ref" => ((k_here; (with_reducible show wpAny _ _ (call (Value.ref _) [Value.bytes _ _, Value.str _ _]) _ _ _); k_dflt (refine' from_bytes_call ?k1 ?k2 ?k3 ?k4 ?_; (case k1 => k_asm); (case k2 => k_mem); (case k3 => kba_ints2); (case k4 => first | kfb_size | (simp only [List.length_take, List.length_drop]; k_extra "my om"))); intro _ _))
  trivial
theorem led_spec {w : World} (n : Int) (t : Tok) : Spec w 1 28 [.int n t] (fun _ => True) (PInt (n.fmod WORD)) := by
  intro s Q E dp un gd outer hR hX hP hQ
  ktr_call [(Str.ofString "n", .int n t)] hR
  k_extra "my words"
  all_goals first | (k_extra "my back") | (dsimp only; k_extra "my back") | (trace_state; w_report)
  all_goals first | rfl | (k_extra "my fin") | trace_state
theorem with_sign_spec {w : World} (n : Int) (t : Tok) : Spec w 1 35 [.int n t] (fun _ => True) (PInt (withSign n)) := by
  intro s Q E dp un gd outer hR hX hP hQ
  ktr_call [(Str.ofString "w", .int n t)] hR
  k_extra "my words"
  all_goals first | (k_extra "my back") | (dsimp only; k_extra "my back") | (trace_state; w_report)
  all_goals first | rfl | (k_extra "my fin") | (unfold withSign; simp only [HALF, WORD]; split <;> omega) | trace_state
theorem address_of_spec {w : World} (n : Int) (t : Tok) : Spec w 1 56 [.int n t] (fun _ => True) (PInt (n.fmod ADDR)) := by
  intro s Q E dp un gd outer hR hX hP hQ
  ktr_call [(Str.ofString "w", .int n t)] hR
  k_extra "my words"
  all_goals first | (k_extra "my back") | (dsimp only; k_extra "my back") | (trace_state; w_report)
  all_goals first | rfl | (k_extra "my fin") | trace_state
theorem quotient_spec {w : World} (a b : Int) (t u : Tok) (hb : b.natAbs.log2 < 9000) : Spec w 1 63 [.int a t, .int b u] (fun _ => True) (PInt (if b = 0 then 0 else a.fdiv b)) := by
  intro s Q E dp un gd outer hR hX hP hQ
  ktr_call [(Str.ofString "a", .int a t), (Str.ofString "b", .int b u)] hR
  k_extra "my words"
  all_goals first | (k_extra "my back") | (dsimp only; k_extra "my back") | (trace_state; w_report)
  all_goals first | rfl | (k_extra "my fin") | (simp_all; done) | trace_state
theorem rest_spec {w : World} (a b : Int) (t u : Tok) : Spec w 1 70 [.int a t, .int b u] (fun _ => True) (PInt (if b = 0 then 0 else a.fmod b)) := by
  intro s Q E dp un gd outer hR hX hP hQ
  ktr_call [(Str.ofString "a", .int a t), (Str.ofString "b", .int b u)] hR
  k_extra "my words"
  all_goals first | (k_extra "my back") | (dsimp only; k_extra "my back") | (trace_state; w_report)
  all_goals first | rfl | (k_extra "my fin") | (simp_all; done) | trace_state
theorem sum_mod_spec {w : World} (a b m : Int) (t u v : Tok) : Spec w 1 98 [.int a t, .int b u, .int m v] (fun _ => True) (PInt (if m = 0 then 0 else (a + b).fmod m)) := by
  intro s Q E dp un gd outer hR hX hP hQ
  ktr_call [(Str.ofString "a", .int a t), (Str.ofString "b", .int b u), (Str.ofString "m", .int m v)] hR
  k_extra "my words"
  all_goals first | (k_extra "my back") | (dsimp only; k_extra "my back") | (trace_state; w_report)
  all_goals first | rfl | (k_extra "my fin") | (simp_all; done) | trace_state
theorem reg4 : True := by
  k_with "call ref" => ((k_here; (fail_if_success (fail_if_success (with_reducible show wpAny _ _ (call (Value.ref 28) _) _ _ _))); k_dflt (refine' Spec.useI (led_spec _ _) ?kR ?kF ?kN ?kX ?kT ?kp ?kk ?_; k_extra "my std"; (case kk => decide); k_whole); intro t' h' tk' F' N'; (try k_sweep)))
  k_with "call ref" => ((k_here; (fail_if_success (fail_if_success (with_reducible show wpAny _ _ (call (Value.ref 35) _) _ _ _))); k_dflt (refine' Spec.useI (with_sign_spec _ _) ?kR ?kF ?kN ?kX ?kT ?kp ?kk ?_; k_extra "my std"; (case kk => decide); k_whole); intro t' h' tk' F' N'; (try k_sweep)))
  trivial
theorem signed_quotient_spec {w : World} (a b : Int) (t u : Tok) (hb : (absI (withSign b)).natAbs.log2 < 9000) : Spec w 2 77 [.int a t, .int b u] (fun _ => True) (PInt (sgnQuot a b)) := by
  intro s Q E dp un gd outer hR hX hP hQ
  ktr_call [(Str.ofString "a", .int a t), (Str.ofString "b", .int b u)] hR
  k_extra "my words"
  all_goals first | (k_extra "my back") | (dsimp only; k_extra "my back") | (trace_state; w_report)
  all_goals first | rfl | (k_extra "my fin") | (simp_all [sgnQuot, absI]; done) | (unfold sgnQuot absI; rw [if_neg (by assumption)]; simp_all; done) | trace_state
theorem signed_rest_spec {w : World} (a b : Int) (t u : Tok) : Spec w 2 84 [.int a t, .int b u] (fun _ => True) (PInt (sgnRest a b)) := by
  intro s Q E dp un gd outer hR hX hP hQ
  ktr_call [(Str.ofString "a", .int a t), (Str.ofString "b", .int b u)] hR
  k_extra "my words"
  all_goals first | (k_extra "my back") | (dsimp only; k_extra "my back") | (trace_state; w_report)
  all_goals first | rfl | (k_extra "my fin") | exact (sgnRest_0 (by assumption)).symm | exact (sgnRest_n (by assumption) (by assumption)).symm | exact (sgnRest_p (by assumption) (by assumption)).symm | trace_state
theorem product_mod_spec {w : World} (a b m : Int) (t u v : Tok) (ha : Builtin.Int.intBits a ≤ 1024) (hb : Builtin.Int.intBits b ≤ 1024) : Spec w 1 105 [.int a t, .int b u, .int m v] (fun _ => True) (PInt (if m = 0 then 0 else (a * b).fmod m)) := by
  intro s Q E dp un gd outer hR hX hP hQ
  ktr_call [(Str.ofString "a", .int a t), (Str.ofString "b", .int b u), (Str.ofString "m", .int m v)] hR
  k_extra "my words"
  all_goals first | (k_extra "my back") | (dsimp only; k_extra "my back") | (trace_state; w_report)
  all_goals first | rfl | (k_extra "my fin") | (simp_all; done) | trace_state
theorem power_spec {w : World} (a b : Int) (t u : Tok) (ha : Builtin.Int.intBits a ≤ 256) (hb : 0 ≤ b) : Spec w 1 91 [.int a t, .int b u] (fun _ => True) (PInt ((a ^ b.toNat).fmod WORD)) := by
  intro s Q E dp un gd outer hR hX hP hQ
  k_with "loop" => k_while (fun _ found base left => PowInv a b found base left) (fun _ _ _ left => left.toNat) "found" "base" "left"
  k_with "state" => first | exact PowInv.start (by assumption) (by assumption) | exact PowInv.odd (by assumption) (by assumption) (by first | assumption | simp_all) | exact PowInv.even (by assumption) (by assumption) (by first | assumption | simp_all)
  k_with "measure" => first | omega | (simp only [Int.fdiv_eq_ediv_of_nonneg _ (show (0:Int) ≤ 2 by decide)]; omega)
  ktr_call [(Str.ofString "a", .int a t), (Str.ofString "b", .int b u)] hR
  k_extra "my words"
  all_goals first | (k_extra "my back") | (dsimp only; k_extra "my back") | (trace_state; w_report)
  all_goals first | rfl | (k_extra "my fin") | exact PowInv.done (by assumption) (by assumption) | trace_state
theorem octet_at_spec {w : World} (p x : Int) (t u : Tok) (hp : 0 ≤ p) : Spec w 1 112 [.int p t, .int x u] (fun _ => True) (PInt (if p ≥ 32 then 0 else (x.fdiv (2 ^ (8 * (32 - 1 - p)).toNat)) % 256)) := by
  intro s Q E dp un gd outer hR hX hP hQ
  ktr_call [(Str.ofString "place", .int p t), (Str.ofString "w", .int x u)] hR
  k_extra "my words"
  all_goals first | (k_extra "my back") | (dsimp only; k_extra "my back") | (trace_state; w_report)
  all_goals first | rfl | (k_extra "my fin") | (rw [bitAnd_m8]; k_extra "my fin") | trace_state
theorem shifted_left_spec {w : World} (p x : Int) (t u : Tok) (hp : 0 ≤ p) (hx : Builtin.Int.intBits x ≤ 256) : Spec w 2 119 [.int p t, .int x u] (fun _ => True) (PInt (if p ≥ 256 then 0 else (x * 2 ^ p.toNat).fmod WORD)) := by
  intro s Q E dp un gd outer hR hX hP hQ
  ktr_call [(Str.ofString "by", .int p t), (Str.ofString "w", .int x u)] hR
  k_extra "my words"
  all_goals first | (k_extra "my back") | (dsimp only; k_extra "my back") | (trace_state; w_report)
  all_goals first | rfl | (k_extra "my fin") | (simp_all; done) | trace_state
theorem shifted_right_spec {w : World} (p x : Int) (t u : Tok) (hp : 0 ≤ p) : Spec w 1 126 [.int p t, .int x u] (fun _ => True) (PInt (if p ≥ 256 then 0 else x.fdiv (2 ^ p.toNat))) := by
  intro s Q E dp un gd outer hR hX hP hQ
  ktr_call [(Str.ofString "by", .int p t), (Str.ofString "w", .int x u)] hR
  k_extra "my words"
  all_goals first | (k_extra "my back") | (dsimp only; k_extra "my back") | (trace_state; w_report)
  all_goals first | rfl | (k_extra "my fin") | (simp_all; done) | trace_state
theorem shifted_signed_spec {w : World} (p x : Int) (t u : Tok) (hp : 0 ≤ p) : Spec w 2 133 [.int p t, .int x u] (fun _ => True) (PInt (((withSign x).fdiv (2 ^ (if 256 < p then 256 else p).toNat)).fmod WORD)) := by
  intro s Q E dp un gd outer hR hX hP hQ
  ktr_call [(Str.ofString "by", .int p t), (Str.ofString "w", .int x u)] hR
  k_extra "my words"
  all_goals first | (k_extra "my back") | (dsimp only; k_extra "my back") | (trace_state; w_report)
  all_goals first | rfl | (k_extra "my fin") | (simp_all; done) | trace_state
theorem widened_spec {w : World} (p x : Int) (t u : Tok) (hp : 0 ≤ p) : Spec w 2 140 [.int p t, .int x u] (fun _ => True) (PInt (if p ≥ 31 then x else if x.fmod (1 * 2 ^ (8 * p + 7).toNat + 1 * 2 ^ (8 * p + 7).toNat) ≥ 1 * 2 ^ (8 * p + 7).toNat then (x.fmod (1 * 2 ^ (8 * p + 7).toNat + 1 * 2 ^ (8 * p + 7).toNat) - 1 * 2 ^ (8 * p + 7).toNat - 1 * 2 ^ (8 * p + 7).toNat).fmod WORD else x.fmod (1 * 2 ^ (8 * p + 7).toNat + 1 * 2 ^ (8 * p + 7).toNat))) := by
  intro s Q E dp un gd outer hR hX hP hQ
  ktr_call [(Str.ofString "place", .int p t), (Str.ofString "w", .int x u)] hR
  k_extra "my words"
  all_goals first | (k_extra "my back") | (dsimp only; k_extra "my back") | (trace_state; w_report)
  all_goals first | rfl | (k_extra "my fin") | (simp_all; done) | trace_state
theorem word_octets_spec {w : World} (x : Int) (t : Tok) : Spec w 2 42 [.int x t] (fun _ => True) (PBytes (KTBy.little 32 (x.fmod WORD)).reverse) := by
  intro s Q E dp un gd outer hR hX hP hQ
  ktr_call [(Str.ofString "w", .int x t)] hR
  k_extra "my words"
  all_goals first | (k_extra "my back") | (dsimp only; k_extra "my back") | (trace_state; w_report)
  all_goals first | rfl | (k_extra "my fin") | trace_state
theorem octets_word_spec {w : World} (x : Array UInt8) (ks : List Int) (t : Tok) (hb : KBw.bInts x = ks) (hx : ks.length ≤ 64) : Spec w 2 49 [.bytes x t] (fun _ => True) (PInt (KFB.value ((ks.drop (clipAt ks.length (-32))).take (ks.length - clipAt ks.length (-32))))) := by
  intro s Q E dp un gd outer hR hX hP hQ
  ktr_call [(Str.ofString "octets", .bytes x t)] hR
  k_extra "my words"
  all_goals first | (k_extra "my back") | (dsimp only; k_extra "my back") | (trace_state; w_report)
  all_goals first | rfl | (k_extra "my fin") | trace_state

end WordsS
theorem reg5b : True := by
  k_with_none
  k_with "my enter" => (((case X => assumption); k_extra "zE"; (case hb => exact BindsTo.of_eq rfl); k_extra "zF"; (intro L' h₁ tk₁ mean mg mb m₁ F N X T R' env' A'); (refine withP (Here.of (env := env') (L := L') X T rfl rfl rfl) ?_; intro zHe); k_fold))
  k_with "my enterF" => ((k_extra "zE"; (case hb => exact fun s => BindsTo.of_eq rfl); k_extra "zF"; (intro s Q E dp un gd outer V K tg n1 vs n2 hI hQ L' h₁ tk₁ mean mg mb m₁ g₁ nx₁ F N X T R' env' A'); (refine withP (Here.of (env := env') (L := L') X T rfl rfl rfl) ?_; intro zHe); k_fold))
  k_with "my auto" => (repeat' (first | (k_unfold; (try dsimp only)) | (k_extra "my name") | walk1 | (dsimp only; walk1) | fail "no step"))
  k_with "no loop" => (((fail_if_success (with_reducible show wpAny _ _ (exec (Stmt.While _ _ _ _) _) _ _ _)); (fail_if_success (with_reducible show wpAny _ _ (pyIter _) _ _ _))))
  k_with "my steps" => (repeat' (first | (k_unfold; (try dsimp only)) | (k_extra "my name") | (k_extra "no loop"; walk1) | (k_extra "no loop"; dsimp only; walk1) | fail "no step"))
  k_with "my list" => (first | exact True.intro | exact IsL.ofNews (by k_asm) (by k_mem) (by l_ints) | exact IsL.ofOld (by k_asm) (by assumption))
  k_with "my back" => (first
  | refine retI (by assumption) (by assumption) ?_
  | refine retB (by assumption) (by assumption) ?_
  | refine retY (by assumption) (by assumption) (by assumption) ?_
  | refine retL (by assumption) (by assumption) (by assumption) (by k_mem) (by l_ints) ?_
  | refine retT (by assumption) (by assumption) (by assumption) (by k_mem) ?_ ?_
  | refine retT3 (by assumption) (by assumption) (by assumption) (by k_mem) ?_ ?_ ?_)
  k_with "my for" => ((k_here; (rename Fr _ _ _ _ => lF'); (with_unfolding_all refine' For_invVF lF' ?k1 ?k2 ?_; (case k1 => exact rfl); (case k2 => exact rfl); k_whole)))
  k_with "exec For Name Subscript cons nil" => ((k_extra "my for"))
  k_with "exec For Name Name cons nil" => ((k_extra "my for"))
  k_with "exec For Name Call cons nil" => ((k_extra "my for"))
  k_with "my pre" => ((k_extra "my list"))
  k_with "my nz" => (first | assumption | decide | k_extra "my om" | (split <;> k_extra "my om"))
  k_with "binaryOp FloorDiv int int" => ((k_dflt (refine' floordiv_int ?k1 ?_ (Or.inl (PyProof.noPylong_of_log2 ?k3)); (case k1 => k_extra "my nz"); (case k3 => first | assumption | decide +kernel | k_extra "my om"))))
  k_with "binaryOp Mod int int" => ((k_dflt (refine' mod_int' ?k1 ?_; (case k1 => k_extra "my nz"))))
  k_with "my bits" => (with_reducible assumption)
  k_with "exec While Compare cons nil" => ((k_extra "while"))
  k_with "binaryOp LShift int int" => ((k_dflt (refine' lshift_int ?k1 ?k2 ?_; (case k1 => first | assumption | decide | k_extra "my om"); (case k2 => first | k_extra "my om" | decide +kernel))))
  k_with "binaryOp RShift int int" => ((k_dflt (refine' rshift_int ?k1 ?_; (case k1 => first | assumption | decide | k_extra "my om"))))
  k_with "my fin" => (((repeat' (first | rw [if_pos (by first | assumption | k_extra "my om")] | rw [if_neg (by first | assumption | k_extra "my om")])); first | done | rfl | k_extra "my om"))
  k_with "my rows" => (first | exact List.forall_mem_nil _ | (refine allC (by with_unfolding_all rfl) ?_; k_extra "my rows"))
  k_with "my own" => (first | assumption | (refine List.mem_append.mpr (.inr ?_); k_extra "my own") | (refine List.Mem.tail _ ?_; k_extra "my own"))
  k_with "my led" => (first | exact List.forall_mem_nil _ | (refine allC (by k_memK) ?_; k_extra "my led") | (intro p9 h9; k_extra "my own"))
  k_with "WPost" => ((dsimp only [WPost]))
  k_with "FPost" => ((dsimp only [FPost]))
  k_with "my words" => (repeat' (first | (k_unfold; (try dsimp only)) | (k_extra "my name") | (k_extra "no loop"; walk1) | (k_extra "no loop"; dsimp only; walk1) | (k_extra "loop") | fail "no step"))
  k_with "subscriptTail Name Slice ref ref" => ((k_here; (with_reducible show wpAny _ _ (subscriptTail _ (PySem.Expr.Slice _ _ none _) (Value.ref _) (Value.ref _)) _ _ _); k_dflt (refine' kmk_slice_ints ?F ?N ?l ?p ?q ?i ?m rfl ?_ ?s ?t ?z; (case F => k_asm); (case N => k_asm); (case l => kmk_list); (case p => kmk_part); (case q => kmk_part); (case i => l_ints); (case m => kmk_nums); (case s => with_unfolding_all rfl); (case t => kmk_pure); (case z => kmk_size)); intro D' ws' h' F' N' l1 hI' hC' hL'; clear hC' hL'; (try simp only [Int.reduceNeg, Int.neg_neg, Int.reduceToNat] at hI'); (try k_lt l1); (try k_sweep)))
  k_with "my len" => (first | k_extra "my om" | ((simp only [List.length_take, List.length_drop, List.length_append, List.length_replicate, List.length_reverse, List.length_cons, List.length_nil, List.length_map]); k_extra "my om"))
  k_with "call builtin:len" => ((k_here; (with_reducible show wpAny _ _ (call (Value.builtin _) [Value.ref _]) _ _ _); k_dflt (refine' len_ints_fit ?k1 ?k2 ?k3 ?_; (case k1 => is_list); (case k2 => l_ints); (case k3 => k_extra "my len"); k_whole)))
  k_with "my comp" => (repeat' (first | (k_unfold; (try dsimp only)) | (k_extra "my name") | (k_extra "no loop"; k_extra "no comp"; walk1) | (k_extra "no loop"; k_extra "no comp"; dsimp only; walk1) | (k_extra "loop") | fail "no step"))
  k_with "no comp" => ((fail_if_success (with_reducible show wpAny _ _ (eval (Expr.ListComp _ _ _ _) _) _ _ _)))
  k_with "compareOp Eq ref ref" => ((k_here; (with_reducible show wpAny _ _ (compareOp CmpOp.Eq (Value.ref _) (Value.ref _)) _ _ _); (with_unfolding_all refine' eq_intsK ?k1 ?k2 ?k3 ?k4 ?k5 ?_; (case k1 => is_list); (case k2 => l_intsC); (case k3 => is_list); (case k4 => l_intsC); (case k5 => exact room_eq (by assumption)); k_whole)))
  k_with "compareOp NotEq ref ref" => ((k_here; (with_reducible show wpAny _ _ (compareOp CmpOp.NotEq (Value.ref _) (Value.ref _)) _ _ _); (with_unfolding_all refine' ne_intsK ?k1 ?k2 ?k3 ?k4 ?k5 ?_; (case k1 => is_list); (case k2 => l_intsC); (case k3 => is_list); (case k4 => l_intsC); (case k5 => exact room_eq (by assumption)); k_whole)))
  k_with "storeName" => ((k_here; k_dflt (refine' storeY ?F ?N ?_ ?a ?b; (case F => k_asm); (case N => k_asm); (case a => rfl); (case b => rfl); k_whole); intro h' tk' m' F' N'; (try k_sweep)))
  k_with "k ne" => ((refine neN ?_; (try dsimp only); first | with_reducible assumption | (refine Ne.symm ?_; with_reducible assumption) | ((simp only [*, ne_eq, not_false_eq_true]); done) | (refine Ne.symm ?_; (simp only [*, ne_eq, not_false_eq_true]); done) | omega))
  k_with "my nones" => ((repeat (first | (with_reducible rename @Ne Nat _ _ => zz; clear zz) | (with_reducible rename And (@Ne Nat _ _) _ => zz; clear zz))))
  k_with "my om" => ((k_extra "my nones"; omega))
  k_with "my name" => (((fail_if_success (fail_if_success k_fold)); (first | (fail_if_success (fail_if_success (with_reducible show wpAny _ _ (exec _ _) _ _ _))) | ((fail_if_success (fail_if_success (with_reducible show wpAny _ _ (eval (Expr.Call _ _ _ _) _) _ _ _))); k_extra "no plain call") | (fail_if_success (fail_if_success (with_reducible show wpAny _ _ (eval (Expr.Tuple _ _ _) _) _ _ _))) | ((fail_if_success (fail_if_success (with_reducible show wpAny _ _ (eval (Expr.BinOp _ _ _ _) _) _ _ _))); k_extra "no plain bin") | (fail_if_success (fail_if_success (with_reducible show wpAny _ _ (eval (Expr.IfExp _ _ _ _) _) _ _ _)))); refine nameQ ?_; intro qn))
  k_with "my he" => (first | with_reducible assumption | exact Here.of (by k_asm) (by k_asm) rfl rfl rfl)
  k_with "eval BinOp" => ((k_here; (with_reducible show wpAny _ _ (eval (Expr.BinOp (Expr.Name _ _) _ (Expr.Name _ _) _) _) _ _ _); k_dflt (refine' binNN ?zH ?zF ?zl1 ?zv1 ?zl2 ?zv2 ?_; (case zF => k_asm); k_extra "z1"; k_extra "z2"; (case zH => k_extra "my he"); k_whole)))
  k_with "eval BinOp" => ((k_here; (with_reducible show wpAny _ _ (eval (Expr.BinOp (Expr.Name _ _) _ (Expr.Constant (Const.int _) _ _) _) _) _ _ _); k_dflt (refine' binNC ?zH ?zF ?zl1 ?zv1 ?_; (case zF => k_asm); k_extra "z1"; (case zH => k_extra "my he"); k_whole)))
  k_with "eval BinOp" => ((k_here; (with_reducible show wpAny _ _ (eval (Expr.BinOp (Expr.Constant (Const.int _) _ _) _ (Expr.Name _ _) _) _) _ _ _); k_dflt (refine' binCN ?zH ?zF ?zl1 ?zv1 ?_; (case zF => k_asm); k_extra "z1"; (case zH => k_extra "my he"); k_whole)))
  k_with "isTrue Compare" => ((k_here; (with_reducible show wpAny _ _ (isTrue (Expr.Compare (Expr.Name _ _) [_] [Expr.Name _ _] _) _ _) _ _ _); k_dflt (refine' tstNN ?zH ?zF ?zl1 ?zv1 ?zl2 ?zv2 ?zm ?_; (case zF => k_asm); k_extra "z1"; k_extra "z2"; (case zm => with_unfolding_all rfl); (case zH => k_extra "my he"); k_whole)))
  k_with "isTrue Compare" => ((k_here; (with_reducible show wpAny _ _ (isTrue (Expr.Compare (Expr.Name _ _) [_] [Expr.Constant (Const.int _) _ _] _) _ _) _ _ _); k_dflt (refine' tstNC ?zH ?zF ?zl1 ?zv1 ?zm ?_; (case zF => k_asm); k_extra "z1"; (case zm => with_unfolding_all rfl); (case zH => k_extra "my he"); k_whole)))
  k_with "eval Call Name" => ((k_here; (with_reducible show wpAny _ _ (eval (Expr.Call (Expr.Name _ _) [_, _] [] _) _) _ _ _); k_dflt (refine' callG2 ?zH ?zF ?zx ?zb ?ze ?zk ?zh1 ?zh2 ?_; k_extra "zc"; (case zh1 => exact rfl); (case zh2 => exact rfl); (case zH => k_extra "my he"); k_whole)))
  k_with "eval Call Name" => ((k_here; (with_reducible show wpAny _ _ (eval (Expr.Call (Expr.Name _ _) [_] [] _) _) _ _ _); k_dflt (refine' callG1 ?zH ?zF ?zx ?zb ?ze ?zk ?zh1 ?_; k_extra "zc"; (case zh1 => exact rfl); (case zH => k_extra "my he"); k_whole)))
  k_with "eval Call Name" => ((k_here; (with_reducible show wpAny _ _ (eval (Expr.Call (Expr.Name _ _) [] [] _) _) _ _ _); k_dflt (refine' callN0 ?zH ?zF ?zx ?zb ?ze ?zk ?_; k_extra "zc"; (case zH => k_extra "my he"); k_whole)))
  k_with "eval Call Name" => ((k_here; (with_reducible show wpAny _ _ (eval (Expr.Call (Expr.Name _ _) [Expr.Name _ _, Expr.Name _ _, Expr.Name _ _] [] _) _) _ _ _); k_dflt (refine' callN3 ?zH ?zF ?zx ?zb ?ze ?zk ?zl1 ?zv1 ?zl2 ?zv2 ?zl3 ?zv3 ?_; k_extra "zc"; k_extra "z1"; k_extra "z2"; k_extra "z3"; (case zH => k_extra "my he"); k_whole)))
  k_with "eval Call Name" => ((k_here; (with_reducible show wpAny _ _ (eval (Expr.Call (Expr.Name _ _) [Expr.Name _ _, Expr.Constant (Const.int _) _ _] [] _) _) _ _ _); k_dflt (refine' callNC ?zH ?zF ?zx ?zb ?ze ?zk ?zl1 ?zv1 ?_; k_extra "zc"; k_extra "z1"; (case zH => k_extra "my he"); k_whole)))
  k_with "eval Call Name" => ((k_here; (with_reducible show wpAny _ _ (eval (Expr.Call (Expr.Name _ _) [Expr.Name _ _, Expr.Name _ _] [] _) _) _ _ _); k_dflt (refine' callN2 ?zH ?zF ?zx ?zb ?ze ?zk ?zl1 ?zv1 ?zl2 ?zv2 ?_; k_extra "zc"; k_extra "z1"; k_extra "z2"; (case zH => k_extra "my he"); k_whole)))
  k_with "eval Call Name" => ((k_here; (with_reducible show wpAny _ _ (eval (Expr.Call (Expr.Name _ _) [Expr.Name _ _] [] _) _) _ _ _); k_dflt (refine' callN1 ?zH ?zF ?zx ?zb ?ze ?zk ?zl1 ?zv1 ?_; k_extra "zc"; k_extra "z1"; (case zH => k_extra "my he"); k_whole)))
  k_with "eval Constant int" => ((refine constI ?_))
  k_with "eval Name" => ((k_here; (with_reducible show wpAny _ _ (eval (Expr.Name _ _) _) _ _ _); k_dflt (refine' nameLoc ?zqzH ?zqzF ?zqzl1 ?zqzv1 ?_; (case zqzF => k_asm); k_extra "z1"; (case zqzH => k_extra "my he"); k_whole)))
  k_with "k all" => (first | exact List.forall_mem_nil _ | (refine' allC ?a ?b; (case a => k_ne); (case b => k_extra "k all")))
  k_with "no plain bin" => ((fail_if_success (first | (with_reducible show wpAny _ _ (eval (Expr.BinOp (Expr.Name _ _) _ (Expr.Name _ _) _) _) _ _ _) | (with_reducible show wpAny _ _ (eval (Expr.BinOp (Expr.Name _ _) _ (Expr.Constant (Const.int _) _ _) _) _) _ _ _) | (with_reducible show wpAny _ _ (eval (Expr.BinOp (Expr.Constant (Const.int _) _ _) _ (Expr.Name _ _) _) _) _ _ _))))
  k_with "no plain call" => ((fail_if_success (first | (with_reducible show wpAny _ _ (eval (Expr.Call (Expr.Name _ _) [] [] _) _) _ _ _) | (with_reducible show wpAny _ _ (eval (Expr.Call (Expr.Name _ _) [Expr.Name _ _] [] _) _) _ _ _) | (with_reducible show wpAny _ _ (eval (Expr.Call (Expr.Name _ _) [Expr.Name _ _, Expr.Name _ _] [] _) _) _ _ _) | (with_reducible show wpAny _ _ (eval (Expr.Call (Expr.Name _ _) [Expr.Name _ _, Expr.Constant (Const.int _) _ _] [] _) _) _ _ _) | (with_reducible show wpAny _ _ (eval (Expr.Call (Expr.Name _ _) [Expr.Name _ _, Expr.Name _ _, Expr.Name _ _] [] _) _) _ _ _))))
  k_with "my ctx" => (((case kR => assumption); (case kF => k_asm); (case kN => k_asm); (case kX => k_asm); (case kT => k_asm)))
  k_with "my std" => ((k_extra "my ctx"; (case kp => k_extra "my pre")))
  k_with "zc" => (((case zF => k_asm); (case zx => exact Eq.refl (some NameKind.globalImplicit)); (case zb => decide); (case ze => k_is); (case zk => k_is)))
  k_with "eval Call Attribute" => ((refine MethodCall_ ?_))
  k_with "callWith" => (((fail_if_success (fail_if_success (with_reducible show wpAny _ _ (callWith _ (Value.builtin _) [] (backTo _ (starEach (_ :: _) _)) []) _ _ _))); k_dflt (refine PyProof.Rows.callWith_builtin1 ?_)))
  k_with "callWith" => (((fail_if_success (fail_if_success (with_reducible show wpAny _ _ (callWith _ (Value.builtin _) (_ :: _) (backTo _ (starEach (_ :: _) _)) []) _ _ _))); k_dflt (refine PyProof.Rows.callWith_method1 ?_)))
  k_with "eval Call Name" => ((k_dflt (refine callBt (by decide +kernel) ?_)))
  k_with "z1" => (((case zl1 => exact Eq.refl true); (case zv1 => rfl)))
  k_with "z2" => (((case zl2 => exact Eq.refl true); (case zv2 => rfl)))
  k_with "z3" => (((case zl3 => exact Eq.refl true); (case zv3 => rfl)))
  k_with "zE" => (((case ho => k_is); (case hB => exact (rfl : List.cons _ _ = List.cons _ _)); (case hS => exact (rfl : Scope.mk _ _ _ _ _ = Scope.mk _ _ _ _ _)); (case hcd => k_is)))
  k_with "zF" => (((case hl => exact Eq.refl true); (case h1 => rfl); (case h2 => rfl); (case h3 => rfl); (case h4 => exact Eq.refl true)))
  trivial
section LawaS
noncomputable def dbl (y : Int) : Nat → List Int
  | 0 => [y]
  | k + 1 => dbl y k ++ [y * 2 ^ (k + 1)]
theorem dbl_length (y : Int) : ∀ k, (dbl y k).length = k + 1
  | 0 => rfl
  | k + 1 => by rw [dbl, List.length_append, dbl_length y k]; rfl
theorem dbl_get (y : Int) : ∀ k i, i ≤ k → (dbl y k)[i]? = some (y * 2 ^ i)
  | 0, i, h => by obtain rfl : i = 0 := by (first | lia | omega)
                  simp [dbl]
  | k + 1, i, h => by
    by_cases e : i = k + 1
    · subst e
      rw [dbl, List.getElem?_append_right (by rw [dbl_length]; (first | lia | omega)), dbl_length]
      simp
    · rw [dbl, List.getElem?_append_left (by rw [dbl_length]; (first | lia | omega))]
      exact dbl_get y k i (by (first | lia | omega))
theorem dbl_getD (y : Int) (k i : Nat) (h : i ≤ k) : (dbl y k).getD i 0 = y * 2 ^ i := by
  rw [List.getD_eq_getElem?_getD, dbl_get y k i h]; rfl
structure PtInv (x y : Int) (ds : List Int) : Prop where
  ok : ∃ k, ds = dbl y k ∧ (k = 0 ∨ y * 2 ^ (k - 1) ≤ x)
theorem PtInv.start {x y : Int} : PtInv x y [y] := ⟨0, rfl, .inl rfl⟩
theorem last_place {ds : List Int} (h : 1 ≤ ds.length) : (-1 + (ds.length : Int)).toNat = ds.length - 1 := by (first | lia | omega)
theorem PtInv.last {x y : Int} {ds : List Int} (h : PtInv x y ds) : ds.getD (ds.length - 1) 0 = y * 2 ^ (ds.length - 1) := by
  obtain ⟨k, rfl, _⟩ := h.ok
  rw [dbl_length]
  exact dbl_getD y k _ (by (first | lia | omega))
theorem PtInv.step {x y d : Int} {ds : List Int} (h : PtInv x y ds) (h1 : 1 ≤ ds.length) (hd : d = ds.getD (ds.length - 1) 0) (ha : d ≤ x) : PtInv x y (ds ++ [d + d]) := by
  have e := h.last
  obtain ⟨k, rfl, _⟩ := h.ok
  rw [dbl_length] at e hd
  simp only [Nat.add_sub_cancel] at e hd
  rw [e] at hd
  refine ⟨k + 1, ?_, .inr ?_⟩
  · rw [dbl, hd, Int.pow_succ, ← Int.mul_assoc]
    congr 2
    (first | lia | omega)
  · rw [Nat.add_sub_cancel, ← hd]; exact ha
theorem two_pow_le {y x : Int} {k : Nat} (hy : 0 < y) (h : y * 2 ^ k ≤ x) : (2 : Int) ^ k ≤ x := by
  have hp := two_pow_pos k
  have : 1 * (2 : Int) ^ k ≤ y * 2 ^ k := Int.mul_le_mul_of_nonneg_right (by (first | lia | omega)) (by (first | lia | omega))
  (first | lia | omega)
theorem pow_lt_of_bits {x : Int} {k n : Nat} (hb : Builtin.Int.intBits x ≤ n) (h : (2 : Int) ^ k ≤ x) : k < n := by
  have h1 := intBits_le_iff.mp hb
  have hp := two_pow_pos k
  have e : ((2 : Int) ^ k).natAbs = 2 ^ k := by rw [Int.natAbs_pow]; rfl
  have h2 : 2 ^ k < 2 ^ n := by
    have : ((2 : Int) ^ k).natAbs ≤ x.natAbs := by (first | lia | omega)
    rw [e] at this
    (first | lia | omega)
  exact (Nat.pow_lt_pow_iff_right (by decide)).mp h2
theorem PtInv.len {x y : Int} {ds : List Int} (h : PtInv x y ds) (hy : 0 < y) (hb : Builtin.Int.intBits x ≤ 1024) : ds.length ≤ 1026 := by
  obtain ⟨k, rfl, hk⟩ := h.ok
  rw [dbl_length]
  rcases hk with rfl | hk
  · (first | lia | omega)
  · have := pow_lt_of_bits hb (two_pow_le hy hk)
    (first | lia | omega)
theorem PtInv.pos {x y : Int} {ds : List Int} (h : PtInv x y ds) (hy : 0 < y) : 0 < ds.getD (ds.length - 1) 0 := by
  rw [h.last]
  exact Int.mul_pos hy (Int.pow_pos (by decide))
theorem getD_snoc (ds : List Int) (z : Int) : (ds ++ [z]).getD ((ds ++ [z]).length - 1) 0 = z := by
  rw [List.length_append, List.length_singleton, Nat.add_sub_cancel, List.getD_eq_getElem?_getD]
  simp
structure PdI (x y : Int) (n i : Nat) (one often : Int) : Prop where
  eq : x = often * (y * 2 ^ (n - i)) + one
  lo : 0 ≤ one
  hi : one < y * 2 ^ (n - i)
theorem PdI.start {x y : Int} {ds : List Int} (h : PtInv x y ds) (hx : 0 ≤ x) (hy : 0 < y) (h1 : 1 ≤ ds.length) (hl : ¬ ds.getD (ds.length - 1) 0 ≤ x) : PdI x y ds.length 0 x 0 := by
  rw [h.last] at hl
  have hp := Int.mul_pos hy (two_pow_pos (ds.length - 1))
  refine ⟨by rw [Int.zero_mul, Int.zero_add], hx, ?_⟩
  have e : ds.length - 0 = (ds.length - 1) + 1 := by (first | lia | omega)
  rw [e, Int.pow_succ, ← Int.mul_assoc]
  (first | lia | omega)
theorem PtInv.item {x y z : Int} {ds : List Int} {i : Nat} (h : PtInv x y ds) (hz : ds.reverse[i]? = some z) : i < ds.length ∧ z = y * 2 ^ (ds.length - 1 - i) := by
  obtain ⟨k, rfl, _⟩ := h.ok
  have hi : i < (dbl y k).length := by
    have := (List.getElem?_eq_some_iff.mp hz).1
    rwa [List.length_reverse] at this
  refine ⟨hi, ?_⟩
  rw [List.getElem?_reverse hi, dbl_get y k _ (by rw [dbl_length] at hi ⊢; (first | lia | omega))] at hz
  exact (Option.some.inj hz).symm
theorem PdI.take {x y z one often : Int} {n i : Nat} (h : PdI x y n i one often) (hi : i < n) (hz : z = y * 2 ^ (n - 1 - i)) (hl : z ≤ one) : PdI x y n (i + 1) (one - z) (often + often + 1) := by
  have e : n - i = (n - 1 - i) + 1 := by (first | lia | omega)
  have e2 : n - (i + 1) = n - 1 - i := by (first | lia | omega)
  obtain ⟨a, b, c⟩ := h
  have e' : y * 2 ^ (n - i) = z * 2 := by rw [e, Int.pow_succ, ← Int.mul_assoc, hz]
  rw [e'] at a c
  refine ⟨?_, by (first | lia | omega), by rw [e2, ← hz]; (first | lia | omega)⟩
  rw [e2, ← hz, a, Int.add_mul, Int.add_mul, Int.one_mul, ← Int.mul_assoc, Int.mul_comm]
  (first | lia | omega)
theorem PdI.pass {x y z one often : Int} {n i : Nat} (h : PdI x y n i one often) (hi : i < n) (hz : z = y * 2 ^ (n - 1 - i)) (hl : ¬ z ≤ one) : PdI x y n (i + 1) one (often + often) := by
  have e : n - i = (n - 1 - i) + 1 := by (first | lia | omega)
  have e2 : n - (i + 1) = n - 1 - i := by (first | lia | omega)
  obtain ⟨a, b, c⟩ := h
  have e' : y * 2 ^ (n - i) = z * 2 := by rw [e, Int.pow_succ, ← Int.mul_assoc, hz]
  rw [e'] at a c
  refine ⟨?_, by (first | lia | omega), by rw [e2, ← hz]; (first | lia | omega)⟩
  rw [e2, ← hz, a, Int.add_mul, ← Int.mul_assoc]
  (first | lia | omega)
theorem PdI.done {x y one often : Int} {n : Nat} (h : PdI x y n n one often) : often = x / y ∧ one = x % y := by
  obtain ⟨a, b, c⟩ := h
  rw [Nat.sub_self, Int.pow_zero, Int.mul_one] at a c
  have hq : x / y = often := by
    rw [a, Int.mul_comm, Int.mul_add_ediv_left _ _ (by (first | lia | omega)), Int.ediv_eq_zero_of_lt b c, Int.add_zero]
  have hr := Int.mul_ediv_add_emod x y
  rw [hq, Int.mul_comm] at hr
  exact ⟨hq.symm, by (first | lia | omega)⟩
noncomputable def Bits (ns : List Int) : Prop := ∀ b ∈ ns, 0 ≤ b ∧ b ≤ 1
theorem Bits.getD {ns : List Int} (h : Bits ns) (i : Nat) : 0 ≤ ns.getD i 0 ∧ ns.getD i 0 ≤ 1 := by
  rw [List.getD_eq_getElem?_getD]
  cases e : ns[i]? with
  | none => exact ⟨by decide, by decide⟩
  | some b => exact h b (List.mem_of_getElem? e)
theorem bits_small {x : Int} (h : 0 ≤ x ∧ x ≤ 1) : Builtin.Int.intBits x ≤ 1 := by
  rw [intBits_le_iff]; (first | lia | omega)
theorem two255 : Builtin.Int.intBits (2 ^ Int.toNat 255) ≤ 256 := by decide +kernel
theorem reg6 : True := by
  k_with "my bits" => (exact two255)
  trivial
theorem Bits.small {ns : List Int} (h : Bits ns) (i : Nat) : Builtin.Int.intBits (ns.getD i 0) ≤ 1 := bits_small (h.getD i)
theorem bits_zsub {x : Int} {n : Nat} (h : Builtin.Int.intBits x ≤ n) : Builtin.Int.intBits (0 - x) ≤ n := intBits_le_of_natAbs (by (first | lia | omega)) h
theorem reg7 : True := by
  k_with "my bits" => (exact Bits.small (by with_reducible assumption) _)
  k_with "my arg" => (first | with_reducible assumption | k_extra "my om" | exact bits_zsub (by with_reducible assumption) | decide | assumption)
  trivial
theorem led_neg0 {x : Int} (h : (0 - x) % WORD = 0) : 0 = x % WORD := by simp only [WORD] at *; (first | lia | omega)
theorem led_neg1 {x : Int} (h : (0 - x) % WORD ≠ 0) : WORD - (0 - x) % WORD = x % WORD := by simp only [WORD] at *; (first | lia | omega)
theorem law_parted_spec {w : World} (x y : Int) (t u : Tok) (hx : 0 ≤ x) (hy : 0 < y) (hb : Builtin.Int.intBits x ≤ 1024) : Spec w 1 632 [.int x t, .int y u] (fun _ => True) (PTup2 (x / y) (x % y)) := by
  intro s Q E dp un gd outer hR hX hP hQ
  ktr_call [(Str.ofString "one", .int x t), (Str.ofString "other", .int y u)] hR
  k_extra "my steps"
  (rename Fr _ _ _ _ => lF'); (rename News _ _ _ _ => lN')
  refine' whileK (σ := List Value × List Int × Nat) ((fun dl tk c => ([(Str.ofString "one", .int x t), (Str.ofString "other", .int y u), (Str.ofString "doubled", .ref dl), (Str.ofString "often_here", .int 0 tk)], [(dl, listOf (List.toArray c.1) c.2.2)])) _ _) (fun c => IntsAre c.1 c.2.1 ∧ 1 ≤ c.2.1.length ∧ c.2.1.length ≤ 2000 ∧ PtInv x y c.2.1) (fun c => (x + 1 - c.2.1.getD (c.2.1.length - 1) 0).toNat) ([.int y u], [y], 0) lF' lN' ?kk ?kl ?ki ?_ ?hE
  case kk => k_extra "my rows"
  case kl => k_extra "my led"
  case ki => exact ⟨.cons _ _ .nil, by show 1 ≤ 1; (first | lia | omega), by show 1 ≤ 2000; (first | lia | omega), PtInv.start⟩
  case hE => passes_own
  clear lF' lN'
  rintro ⟨vs, ds, nn⟩ u' h' tk' ⟨hi, hl1, hl2, hinv⟩ F' N'
  dsimp only at F' N' hi hl1 hl2 hinv
  k_fold
  k_extra "my steps"
  · (rename Fr _ _ _ _ => F9); (rename News _ _ _ _ => N9)
    have ha := (by assumption : ds.getD (-1 + (ds.length : Int)).toNat 0 ≤ x)
    rw [last_place hl1] at ha N9
    simp only [List.push_toArray] at N9
    refine' WEnd.intro F9 N9 (_, ds ++ [ds.getD (ds.length - 1) 0 + ds.getD (ds.length - 1) 0], _) ?g1 ?g2 ?g3 ?g4
    case g1 => k_extra "my rows"
    case g2 => k_extra "my led"
    case g3 =>
      have hs := hinv.step hl1 rfl ha
      have := hs.len hy hb
      exact ⟨hi.append (.cons _ _ .nil), by dsimp only; rw [List.length_append]; (first | lia | omega), by dsimp only; (first | lia | omega), hs⟩
    case g4 =>
      have hp := hinv.pos hy
      (try dsimp only)
      rw [getD_snoc]
      (first | lia | omega)
  · (rename Fr _ _ _ _ => F9); (rename News _ _ _ _ => N9); (rename IntsAre _ ds.reverse => hI')
    have ha := (by assumption : ¬ ds.getD (-1 + (ds.length : Int)).toNat 0 ≤ x)
    rw [last_place hl1] at ha
    refine' forL (σ := Int × Tok × Int × Tok) ((fun D ws c => ([(Str.ofString "one", .int c.1 c.2.1), (Str.ofString "often_here", .int c.2.2.1 c.2.2.2)], [(D, listOf (List.toArray ws) 0)])) _ _) (fun i c => PdI x y ds.length i c.1 c.2.2.1) (x, _, 0, _) rfl ?hl ?hm hI' F9 N9 ?hk ?hld ?h0 ?_ ?_
    case hl => k_mem
    case hm => intro c; k_memK
    case hk => k_extra "my rows"
    case hld => k_extra "my led"
    case h0 => exact PdI.start hinv hx hy hl1 ha
    · rintro ⟨o, t1, f, t2⟩ i z t3 u' h' tk' own hz hoff hc F' N'
      dsimp only at F' N' hc hoff
      obtain ⟨hi', hz'⟩ := hinv.item hz
      clear F9 N9
      k_fold
      k_extra "my steps"
      · (rename Fr _ _ _ _ => F9); (rename News _ _ _ _ => N9)
        have hl := (by assumption : z ≤ o)
        refine' FEnd.intro F9 N9 (_, _, _, _) ?g1 ?g2 ?g3 rfl ?g5
        case g1 => k_extra "my rows"
        case g2 => k_extra "my led"
        case g3 => k_extra "my led"
        case g5 => exact hc.take hi' hz' hl
      · (rename Fr _ _ _ _ => F9); (rename News _ _ _ _ => N9)
        have hl := (by assumption : ¬ z ≤ o)
        refine' FEnd.intro F9 N9 (_, _, _, _) ?g1 ?g2 ?g3 rfl ?g5
        case g1 => k_extra "my rows"
        case g2 => k_extra "my led"
        case g3 => k_extra "my led"
        case g5 => exact hc.pass hi' hz' hl
    · rintro ⟨o, t1, f, t2⟩ u' h' tk' hc F' N'
      dsimp only at F' N' hc
      rw [List.length_reverse] at hc
      clear F9 N9
      obtain ⟨e1, e2⟩ := hc.done
      try k_fold
      k_extra "my steps"
      exact retT (s := s) (Q := Q) hQ (by assumption) (by assumption) (by k_mem) e1 e2
theorem reg8 : True := by
  k_with "storeName" => ((k_here; k_dflt (refine' storeX_L ?F ?N ?_ ?a ?b; (case F => k_asm); (case N => k_asm); (case a => rfl); (case b => rfl); k_whole); intro h' F' N'; (try k_sweep)))
  trivial
theorem law_bits_spec {w : World} (n : Int) (t : Tok) : Spec w 1 611 [.int n t] (fun _ => True) (PList ((List.foldl (fun p _ => (p.fst.fdiv 2, p.snd ++ [p.fst.fmod 2])) (n, []) (rangeKs 0 (256 - 0 : Int).toNat)).snd)) := by
  intro s Q E dp un gd outer hR hX hP hQ
  ktr_call [(Str.ofString "sum_here", .int n t)] hR
  k_extra "my auto"
  all_goals (k_extra "my back")
  all_goals rfl
noncomputable def wt (ns : List Int) : Int := ns.reverse.foldl (fun s b => 2 * s + b) 0
theorem law_weight_spec {w : World} (l : Addr) (ns : List Int) : Spec w 1 618 [.ref l] (fun h => IsL h l ns ∧ ns.length ≤ 4096) (PInt (wt ns)) := by
  intro s Q E dp un gd outer hR hX hP hQ
  obtain ⟨hP, hlen⟩ := hP
  obtain ⟨vs, hl, hi⟩ := hP.list
  have hlen2 : vs.length ≤ 4096 := by rw [hi.length]; exact hlen
  k_with "loop" => k_state (fun pre s => s = pre.foldl (fun s b => 2 * s + b) 0) "sum_here"
  ktr_call [(Str.ofString "bits", .ref l)] hR
  k_extra "my words"
  all_goals (k_extra "my back")
  all_goals assumption
theorem reg9 : True := by
  k_with "my pre" => (first | exact ⟨IsL.ofOld (by k_asm) (by with_reducible assumption), by with_reducible assumption⟩ | (refine ⟨?_, ?_⟩ <;> first | (k_extra "my list") | (k_extra "my len")))
  k_with "call ref" => ((k_here; (fail_if_success (fail_if_success (with_reducible show wpAny _ _ (call (Value.ref 618) _) _ _ _))); k_dflt (refine' Spec.useI (law_weight_spec _ _) ?kR ?kF ?kN ?kX ?kT ?kp ?kk ?_; k_extra "my std"; (case kk => decide); k_whole); intro t' h' tk' F' N'; (try k_sweep)))
  k_with "call ref" => ((k_here; (fail_if_success (fail_if_success (with_reducible show wpAny _ _ (call (Value.ref 35) _) _ _ _))); k_dflt (refine' Spec.useI (with_sign_spec _ _) ?kR ?kF ?kN ?kX ?kT ?kp ?kk ?_; k_extra "my std"; (case kk => decide); k_whole); intro t' h' tk' F' N'; (try k_sweep)))
  k_with "call ref" => ((k_here; (fail_if_success (fail_if_success (with_reducible show wpAny _ _ (call (Value.ref 28) _) _ _ _))); k_dflt (refine' Spec.useI (led_spec _ _) ?kR ?kF ?kN ?kX ?kT ?kp ?kk ?_; k_extra "my std"; (case kk => decide); k_whole); intro t' h' tk' F' N'; (try k_sweep)))
  k_with "call ref" => ((k_here; (fail_if_success (fail_if_success (with_reducible show wpAny _ _ (call (Value.ref 632) _) _ _ _))); k_dflt (refine' Spec.useT (law_parted_spec _ _ _ _ ?s0 ?s1 ?s2) ?kR ?kF ?kN ?kX ?kT ?kp ?kk ?_; k_extra "my std"; (case s0 => k_extra "my arg"); (case s1 => k_extra "my arg"); (case s2 => k_extra "my arg"); (case kk => decide); k_whole); intro l' t' u' h' tk' ns' F' N' l1; (try (dsimp only [AllNe] at l1)); (try k_sweep)))
  k_with "call ref" => ((k_here; (fail_if_success (fail_if_success (with_reducible show wpAny _ _ (call (Value.ref 611) _) _ _ _))); k_dflt (refine' Spec.useL (law_bits_spec _ _) ?kR ?kF ?kN ?kX ?kT ?kp ?kk ?_; k_extra "my std"; (case kk => decide); k_whole); intro l' vs' nn' h' tk' ns' F' N' i' e' l1; (try (dsimp only [AllNe] at l1)); (try k_sweep)))
  k_with "storeName" => ((k_here; k_dflt (refine' storeY ?F ?N ?_ ?a ?b; (case F => k_asm); (case N => k_asm); (case a => rfl); (case b => rfl); k_whole); intro h' tk' m' F' N'; (try k_sweep)))
  trivial
theorem law_WORD_spec {w : World}  : Spec w 1 564 [] (fun _ => True) (PInt WORD) := by
  intro s Q E dp un gd outer hR hX hP hQ
  ktr_call [] hR
  k_extra "my words"
  all_goals first | (k_extra "my back") | (dsimp only; k_extra "my back") | (trace_state; w_report)
  all_goals first | rfl | (k_extra "my fin") | trace_state
theorem law_signed_spec {w : World} (l : Addr) (ns : List Int) (hb : Bits ns) : Spec w 2 625 [.ref l] (fun h => IsL h l ns ∧ ns.length = 256) (PInt (wt (ns.take 255) - 2 ^ 255 * ns.getD 255 0)) := by
  intro s Q E dp un gd outer hR hX hP hQ
  have hg := bits_small (hb.getD 255)
  obtain ⟨hP, hlen⟩ := hP
  obtain ⟨vs, hl, hi⟩ := hP.list
  have hlen2 : vs.length = 256 := by rw [hi.length]; exact hlen
  ktr_call [(Str.ofString "bits", .ref l)] hR
  k_extra "my words"
  all_goals first | (k_extra "my back") | (dsimp only; k_extra "my back") | (trace_state; w_report)
  all_goals first | rfl | (k_extra "my fin") | trace_state
theorem reg10 : True := by
  k_with "call ref" => ((k_here; (fail_if_success (fail_if_success (with_reducible show wpAny _ _ (call (Value.ref 564) _) _ _ _))); k_dflt (refine' Spec.useI (law_WORD_spec) ?kR ?kF ?kN ?kX ?kT ?kp ?kk ?_; k_extra "my std"; (case kk => decide); k_whole); intro t' h' tk' F' N'; (try k_sweep)))
  k_with "call ref" => ((k_here; (fail_if_success (fail_if_success (with_reducible show wpAny _ _ (call (Value.ref 625) _) _ _ _))); k_dflt (refine' Spec.useI (law_signed_spec _ _ (by assumption)) ?kR ?kF ?kN ?kX ?kT ?kp ?kk ?_; k_extra "my std"; (case kk => decide); k_whole); intro t' h' tk' F' N'; (try k_sweep)))
  trivial
theorem law_left_spec {w : World} (x y : Int) (t u : Tok) (hx : 0 ≤ x) (hy : 0 ≤ y) (hb : Builtin.Int.intBits x ≤ 1024) : Spec w 2 639 [.int x t, .int y u] (fun _ => True) (PInt (if y = 0 then 0 else x % y)) := by
  intro s Q E dp un gd outer hR hX hP hQ
  have hy' : y ≠ 0 → 0 < y := fun e => by omega
  ktr_call [(Str.ofString "one", .int x t), (Str.ofString "other", .int y u)] hR
  k_extra "my words"
  all_goals first | (k_extra "my back") | (dsimp only; k_extra "my back") | (trace_state; w_report)
  all_goals first | rfl | (k_extra "my fin") | trace_state
theorem law_led_spec {w : World} (x : Int) (t : Tok) (hb : Builtin.Int.intBits x ≤ 1024) : Spec w 2 646 [.int x t] (fun _ => True) (PInt (x % WORD)) := by
  intro s Q E dp un gd outer hR hX hP hQ
  ktr_call [(Str.ofString "sum_here", .int x t)] hR
  k_extra "my words"
  all_goals first | (k_extra "my back") | (dsimp only; k_extra "my back") | (trace_state; w_report)
  all_goals first | rfl | (k_extra "my fin") | exact led_neg0 (by assumption) | exact led_neg1 (by assumption) | trace_state

end LawaS
theorem reg11b : True := by
  k_with_none
  k_with "my enter" => (((case X => assumption); k_extra "zE"; (case hb => exact BindsTo.of_eq rfl); k_extra "zF"; (intro L' h₁ tk₁ mean mg mb m₁ F N X T R' env' A'); (refine withP (Here.of (env := env') (L := L') X T rfl rfl rfl) ?_; intro zHe); k_fold))
  k_with "my enterF" => ((k_extra "zE"; (case hb => exact fun s => BindsTo.of_eq rfl); k_extra "zF"; (intro s Q E dp un gd outer V K tg n1 vs n2 hI hQ L' h₁ tk₁ mean mg mb m₁ g₁ nx₁ F N X T R' env' A'); (refine withP (Here.of (env := env') (L := L') X T rfl rfl rfl) ?_; intro zHe); k_fold))
  k_with "my auto" => (repeat' (first | (k_unfold; (try dsimp only)) | (k_extra "my name") | walk1 | (dsimp only; walk1) | fail "no step"))
  k_with "no loop" => (((fail_if_success (with_reducible show wpAny _ _ (exec (Stmt.While _ _ _ _) _) _ _ _)); (fail_if_success (with_reducible show wpAny _ _ (pyIter _) _ _ _))))
  k_with "my steps" => (repeat' (first | (k_unfold; (try dsimp only)) | (k_extra "my name") | (k_extra "no loop"; walk1) | (k_extra "no loop"; dsimp only; walk1) | fail "no step"))
  k_with "my list" => (first | exact True.intro | exact IsL.ofNews (by k_asm) (by k_mem) (by l_ints) | exact IsL.ofOld (by k_asm) (by assumption))
  k_with "my back" => (first
  | refine retI (by assumption) (by assumption) ?_
  | refine retB (by assumption) (by assumption) ?_
  | refine retY (by assumption) (by assumption) (by assumption) ?_
  | refine retL (by assumption) (by assumption) (by assumption) (by k_mem) (by l_ints) ?_
  | refine retT (by assumption) (by assumption) (by assumption) (by k_mem) ?_ ?_
  | refine retT3 (by assumption) (by assumption) (by assumption) (by k_mem) ?_ ?_ ?_)
  k_with "my for" => ((k_here; (rename Fr _ _ _ _ => lF'); (with_unfolding_all refine' For_invVF lF' ?k1 ?k2 ?_; (case k1 => exact rfl); (case k2 => exact rfl); k_whole)))
  k_with "exec For Name Subscript cons nil" => ((k_extra "my for"))
  k_with "exec For Name Name cons nil" => ((k_extra "my for"))
  k_with "exec For Name Call cons nil" => ((k_extra "my for"))
  k_with "my pre" => ((k_extra "my list"))
  k_with "my nz" => (first | assumption | decide | k_extra "my om" | (split <;> k_extra "my om"))
  k_with "binaryOp FloorDiv int int" => ((k_dflt (refine' floordiv_int ?k1 ?_ (Or.inl (PyProof.noPylong_of_log2 ?k3)); (case k1 => k_extra "my nz"); (case k3 => first | assumption | decide +kernel | k_extra "my om"))))
  k_with "binaryOp Mod int int" => ((k_dflt (refine' mod_int' ?k1 ?_; (case k1 => k_extra "my nz"))))
  k_with "my bits" => (with_reducible assumption)
  k_with "exec While Compare cons nil" => ((k_extra "while"))
  k_with "binaryOp LShift int int" => ((k_dflt (refine' lshift_int ?k1 ?k2 ?_; (case k1 => first | assumption | decide | k_extra "my om"); (case k2 => first | k_extra "my om" | decide +kernel))))
  k_with "binaryOp RShift int int" => ((k_dflt (refine' rshift_int ?k1 ?_; (case k1 => first | assumption | decide | k_extra "my om"))))
  k_with "my fin" => (((repeat' (first | rw [if_pos (by first | assumption | k_extra "my om")] | rw [if_neg (by first | assumption | k_extra "my om")])); first | done | rfl | k_extra "my om"))
  k_with "my rows" => (first | exact List.forall_mem_nil _ | (refine allC (by with_unfolding_all rfl) ?_; k_extra "my rows"))
  k_with "my own" => (first | assumption | (refine List.mem_append.mpr (.inr ?_); k_extra "my own") | (refine List.Mem.tail _ ?_; k_extra "my own"))
  k_with "my led" => (first | exact List.forall_mem_nil _ | (refine allC (by k_memK) ?_; k_extra "my led") | (intro p9 h9; k_extra "my own"))
  k_with "WPost" => ((dsimp only [WPost]))
  k_with "FPost" => ((dsimp only [FPost]))
  k_with "my words" => (repeat' (first | (k_unfold; (try dsimp only)) | (k_extra "my name") | (k_extra "no loop"; walk1) | (k_extra "no loop"; dsimp only; walk1) | (k_extra "loop") | fail "no step"))
  k_with "subscriptTail Name Slice ref ref" => ((k_here; (with_reducible show wpAny _ _ (subscriptTail _ (PySem.Expr.Slice _ _ none _) (Value.ref _) (Value.ref _)) _ _ _); k_dflt (refine' kmk_slice_ints ?F ?N ?l ?p ?q ?i ?m rfl ?_ ?s ?t ?z; (case F => k_asm); (case N => k_asm); (case l => kmk_list); (case p => kmk_part); (case q => kmk_part); (case i => l_ints); (case m => kmk_nums); (case s => with_unfolding_all rfl); (case t => kmk_pure); (case z => kmk_size)); intro D' ws' h' F' N' l1 hI' hC' hL'; clear hC' hL'; (try simp only [Int.reduceNeg, Int.neg_neg, Int.reduceToNat] at hI'); (try k_lt l1); (try k_sweep)))
  k_with "my len" => (first | k_extra "my om" | ((simp only [List.length_take, List.length_drop, List.length_append, List.length_replicate, List.length_reverse, List.length_cons, List.length_nil, List.length_map]); k_extra "my om"))
  k_with "call builtin:len" => ((k_here; (with_reducible show wpAny _ _ (call (Value.builtin _) [Value.ref _]) _ _ _); k_dflt (refine' len_ints_fit ?k1 ?k2 ?k3 ?_; (case k1 => is_list); (case k2 => l_ints); (case k3 => k_extra "my len"); k_whole)))
  k_with "my comp" => (repeat' (first | (k_unfold; (try dsimp only)) | (k_extra "my name") | (k_extra "no loop"; k_extra "no comp"; walk1) | (k_extra "no loop"; k_extra "no comp"; dsimp only; walk1) | (k_extra "loop") | fail "no step"))
  k_with "no comp" => ((fail_if_success (with_reducible show wpAny _ _ (eval (Expr.ListComp _ _ _ _) _) _ _ _)))
  k_with "compareOp Eq ref ref" => ((k_here; (with_reducible show wpAny _ _ (compareOp CmpOp.Eq (Value.ref _) (Value.ref _)) _ _ _); (with_unfolding_all refine' eq_intsK ?k1 ?k2 ?k3 ?k4 ?k5 ?_; (case k1 => is_list); (case k2 => l_intsC); (case k3 => is_list); (case k4 => l_intsC); (case k5 => exact room_eq (by assumption)); k_whole)))
  k_with "compareOp NotEq ref ref" => ((k_here; (with_reducible show wpAny _ _ (compareOp CmpOp.NotEq (Value.ref _) (Value.ref _)) _ _ _); (with_unfolding_all refine' ne_intsK ?k1 ?k2 ?k3 ?k4 ?k5 ?_; (case k1 => is_list); (case k2 => l_intsC); (case k3 => is_list); (case k4 => l_intsC); (case k5 => exact room_eq (by assumption)); k_whole)))
  k_with "storeName" => ((k_here; k_dflt (refine' storeY ?F ?N ?_ ?a ?b; (case F => k_asm); (case N => k_asm); (case a => rfl); (case b => rfl); k_whole); intro h' tk' m' F' N'; (try k_sweep)))
  k_with "k ne" => ((refine neN ?_; (try dsimp only); first | with_reducible assumption | (refine Ne.symm ?_; with_reducible assumption) | ((simp only [*, ne_eq, not_false_eq_true]); done) | (refine Ne.symm ?_; (simp only [*, ne_eq, not_false_eq_true]); done) | omega))
  k_with "my nones" => ((repeat (first | (with_reducible rename @Ne Nat _ _ => zz; clear zz) | (with_reducible rename And (@Ne Nat _ _) _ => zz; clear zz))))
  k_with "my om" => ((k_extra "my nones"; omega))
  k_with "my name" => (((fail_if_success (fail_if_success k_fold)); (first | (fail_if_success (fail_if_success (with_reducible show wpAny _ _ (exec _ _) _ _ _))) | ((fail_if_success (fail_if_success (with_reducible show wpAny _ _ (eval (Expr.Call _ _ _ _) _) _ _ _))); k_extra "no plain call") | (fail_if_success (fail_if_success (with_reducible show wpAny _ _ (eval (Expr.Tuple _ _ _) _) _ _ _))) | ((fail_if_success (fail_if_success (with_reducible show wpAny _ _ (eval (Expr.BinOp _ _ _ _) _) _ _ _))); k_extra "no plain bin") | (fail_if_success (fail_if_success (with_reducible show wpAny _ _ (eval (Expr.IfExp _ _ _ _) _) _ _ _)))); refine nameQ ?_; intro qn))
  k_with "my he" => (first | with_reducible assumption | exact Here.of (by k_asm) (by k_asm) rfl rfl rfl)
  k_with "eval BinOp" => ((k_here; (with_reducible show wpAny _ _ (eval (Expr.BinOp (Expr.Name _ _) _ (Expr.Name _ _) _) _) _ _ _); k_dflt (refine' binNN ?zH ?zF ?zl1 ?zv1 ?zl2 ?zv2 ?_; (case zF => k_asm); k_extra "z1"; k_extra "z2"; (case zH => k_extra "my he"); k_whole)))
  k_with "eval BinOp" => ((k_here; (with_reducible show wpAny _ _ (eval (Expr.BinOp (Expr.Name _ _) _ (Expr.Constant (Const.int _) _ _) _) _) _ _ _); k_dflt (refine' binNC ?zH ?zF ?zl1 ?zv1 ?_; (case zF => k_asm); k_extra "z1"; (case zH => k_extra "my he"); k_whole)))
  k_with "eval BinOp" => ((k_here; (with_reducible show wpAny _ _ (eval (Expr.BinOp (Expr.Constant (Const.int _) _ _) _ (Expr.Name _ _) _) _) _ _ _); k_dflt (refine' binCN ?zH ?zF ?zl1 ?zv1 ?_; (case zF => k_asm); k_extra "z1"; (case zH => k_extra "my he"); k_whole)))
  k_with "isTrue Compare" => ((k_here; (with_reducible show wpAny _ _ (isTrue (Expr.Compare (Expr.Name _ _) [_] [Expr.Name _ _] _) _ _) _ _ _); k_dflt (refine' tstNN ?zH ?zF ?zl1 ?zv1 ?zl2 ?zv2 ?zm ?_; (case zF => k_asm); k_extra "z1"; k_extra "z2"; (case zm => with_unfolding_all rfl); (case zH => k_extra "my he"); k_whole)))
  k_with "isTrue Compare" => ((k_here; (with_reducible show wpAny _ _ (isTrue (Expr.Compare (Expr.Name _ _) [_] [Expr.Constant (Const.int _) _ _] _) _ _) _ _ _); k_dflt (refine' tstNC ?zH ?zF ?zl1 ?zv1 ?zm ?_; (case zF => k_asm); k_extra "z1"; (case zm => with_unfolding_all rfl); (case zH => k_extra "my he"); k_whole)))
  k_with "eval Call Name" => ((k_here; (with_reducible show wpAny _ _ (eval (Expr.Call (Expr.Name _ _) [_, _] [] _) _) _ _ _); k_dflt (refine' callG2 ?zH ?zF ?zx ?zb ?ze ?zk ?zh1 ?zh2 ?_; k_extra "zc"; (case zh1 => exact rfl); (case zh2 => exact rfl); (case zH => k_extra "my he"); k_whole)))
  k_with "eval Call Name" => ((k_here; (with_reducible show wpAny _ _ (eval (Expr.Call (Expr.Name _ _) [_] [] _) _) _ _ _); k_dflt (refine' callG1 ?zH ?zF ?zx ?zb ?ze ?zk ?zh1 ?_; k_extra "zc"; (case zh1 => exact rfl); (case zH => k_extra "my he"); k_whole)))
  k_with "eval Call Name" => ((k_here; (with_reducible show wpAny _ _ (eval (Expr.Call (Expr.Name _ _) [] [] _) _) _ _ _); k_dflt (refine' callN0 ?zH ?zF ?zx ?zb ?ze ?zk ?_; k_extra "zc"; (case zH => k_extra "my he"); k_whole)))
  k_with "eval Call Name" => ((k_here; (with_reducible show wpAny _ _ (eval (Expr.Call (Expr.Name _ _) [Expr.Name _ _, Expr.Name _ _, Expr.Name _ _] [] _) _) _ _ _); k_dflt (refine' callN3 ?zH ?zF ?zx ?zb ?ze ?zk ?zl1 ?zv1 ?zl2 ?zv2 ?zl3 ?zv3 ?_; k_extra "zc"; k_extra "z1"; k_extra "z2"; k_extra "z3"; (case zH => k_extra "my he"); k_whole)))
  k_with "eval Call Name" => ((k_here; (with_reducible show wpAny _ _ (eval (Expr.Call (Expr.Name _ _) [Expr.Name _ _, Expr.Constant (Const.int _) _ _] [] _) _) _ _ _); k_dflt (refine' callNC ?zH ?zF ?zx ?zb ?ze ?zk ?zl1 ?zv1 ?_; k_extra "zc"; k_extra "z1"; (case zH => k_extra "my he"); k_whole)))
  k_with "eval Call Name" => ((k_here; (with_reducible show wpAny _ _ (eval (Expr.Call (Expr.Name _ _) [Expr.Name _ _, Expr.Name _ _] [] _) _) _ _ _); k_dflt (refine' callN2 ?zH ?zF ?zx ?zb ?ze ?zk ?zl1 ?zv1 ?zl2 ?zv2 ?_; k_extra "zc"; k_extra "z1"; k_extra "z2"; (case zH => k_extra "my he"); k_whole)))
  k_with "eval Call Name" => ((k_here; (with_reducible show wpAny _ _ (eval (Expr.Call (Expr.Name _ _) [Expr.Name _ _] [] _) _) _ _ _); k_dflt (refine' callN1 ?zH ?zF ?zx ?zb ?ze ?zk ?zl1 ?zv1 ?_; k_extra "zc"; k_extra "z1"; (case zH => k_extra "my he"); k_whole)))
  k_with "eval Constant int" => ((refine constI ?_))
  k_with "eval Name" => ((k_here; (with_reducible show wpAny _ _ (eval (Expr.Name _ _) _) _ _ _); k_dflt (refine' nameLoc ?zqzH ?zqzF ?zqzl1 ?zqzv1 ?_; (case zqzF => k_asm); k_extra "z1"; (case zqzH => k_extra "my he"); k_whole)))
  k_with "k all" => (first | exact List.forall_mem_nil _ | (refine' allC ?a ?b; (case a => k_ne); (case b => k_extra "k all")))
  k_with "no plain bin" => ((fail_if_success (first | (with_reducible show wpAny _ _ (eval (Expr.BinOp (Expr.Name _ _) _ (Expr.Name _ _) _) _) _ _ _) | (with_reducible show wpAny _ _ (eval (Expr.BinOp (Expr.Name _ _) _ (Expr.Constant (Const.int _) _ _) _) _) _ _ _) | (with_reducible show wpAny _ _ (eval (Expr.BinOp (Expr.Constant (Const.int _) _ _) _ (Expr.Name _ _) _) _) _ _ _))))
  k_with "no plain call" => ((fail_if_success (first | (with_reducible show wpAny _ _ (eval (Expr.Call (Expr.Name _ _) [] [] _) _) _ _ _) | (with_reducible show wpAny _ _ (eval (Expr.Call (Expr.Name _ _) [Expr.Name _ _] [] _) _) _ _ _) | (with_reducible show wpAny _ _ (eval (Expr.Call (Expr.Name _ _) [Expr.Name _ _, Expr.Name _ _] [] _) _) _ _ _) | (with_reducible show wpAny _ _ (eval (Expr.Call (Expr.Name _ _) [Expr.Name _ _, Expr.Constant (Const.int _) _ _] [] _) _) _ _ _) | (with_reducible show wpAny _ _ (eval (Expr.Call (Expr.Name _ _) [Expr.Name _ _, Expr.Name _ _, Expr.Name _ _] [] _) _) _ _ _))))
  k_with "my ctx" => (((case kR => assumption); (case kF => k_asm); (case kN => k_asm); (case kX => k_asm); (case kT => k_asm)))
  k_with "my std" => ((k_extra "my ctx"; (case kp => k_extra "my pre")))
  k_with "zc" => (((case zF => k_asm); (case zx => exact Eq.refl (some NameKind.globalImplicit)); (case zb => decide); (case ze => k_is); (case zk => k_is)))
  k_with "eval Call Attribute" => ((refine MethodCall_ ?_))
  k_with "callWith" => (((fail_if_success (fail_if_success (with_reducible show wpAny _ _ (callWith _ (Value.builtin _) [] (backTo _ (starEach (_ :: _) _)) []) _ _ _))); k_dflt (refine PyProof.Rows.callWith_builtin1 ?_)))
  k_with "callWith" => (((fail_if_success (fail_if_success (with_reducible show wpAny _ _ (callWith _ (Value.builtin _) (_ :: _) (backTo _ (starEach (_ :: _) _)) []) _ _ _))); k_dflt (refine PyProof.Rows.callWith_method1 ?_)))
  k_with "eval Call Name" => ((k_dflt (refine callBt (by decide +kernel) ?_)))
  k_with "z1" => (((case zl1 => exact Eq.refl true); (case zv1 => rfl)))
  k_with "z2" => (((case zl2 => exact Eq.refl true); (case zv2 => rfl)))
  k_with "z3" => (((case zl3 => exact Eq.refl true); (case zv3 => rfl)))
  k_with "zE" => (((case ho => k_is); (case hB => exact (rfl : List.cons _ _ = List.cons _ _)); (case hS => exact (rfl : Scope.mk _ _ _ _ _ = Scope.mk _ _ _ _ _)); (case hcd => k_is)))
  k_with "zF" => (((case hl => exact Eq.refl true); (case h1 => rfl); (case h2 => rfl); (case h3 => rfl); (case h4 => exact Eq.refl true)))
  trivial
section MB2S
noncomputable def bitsN (n : Int) (k : Nat) : List Int := (List.range k).map fun i => n / 2 ^ i % 2
theorem bitsN_length (n : Int) (k : Nat) : (bitsN n k).length = k := by simp [bitsN]
theorem bitsN_succ (n : Int) (k : Nat) : bitsN n (k + 1) = bitsN n k ++ [n / 2 ^ k % 2] := by simp [bitsN, List.range_succ]
theorem bitsN_Bits (n : Int) (k : Nat) : Bits (bitsN n k) := by
  intro b hb
  obtain ⟨i, _, rfl⟩ := List.mem_map.mp hb
  (first | lia | omega)
theorem fold_bits (n : Int) : ∀ (l : List Int), (List.foldl (fun p _ => (Int.fdiv p.fst 2, p.snd ++ [Int.fmod p.fst 2])) (n, []) l) = (n / 2 ^ l.length, bitsN n l.length) := by
  have e1 : ∀ x : Int, x.fmod 2 = x % 2 := fun x => Int.fmod_eq_emod_of_nonneg _ (by decide)
  have e2 : ∀ x : Int, x.fdiv 2 = x / 2 := fun x => Int.fdiv_eq_ediv_of_nonneg _ (by decide)
  have all : ∀ (l : List Int) (k : Nat), (List.foldl (fun (p : Int × List Int) (_ : Int) => (Int.fdiv p.fst 2, p.snd ++ [Int.fmod p.fst 2])) (n / 2 ^ k, bitsN n k) l) = (n / 2 ^ (k + l.length), bitsN n (k + l.length)) := by
    intro l
    induction l with
    | nil => intro k; rfl
    | cons a r ih =>
      intro k
      rw [List.foldl_cons, List.length_cons]
      have e : (Int.fdiv (n / 2 ^ k, bitsN n k).fst 2, (n / 2 ^ k, bitsN n k).snd ++ [Int.fmod (n / 2 ^ k, bitsN n k).fst 2]) = (n / 2 ^ (k + 1), bitsN n (k + 1)) := by
        rw [bitsN_succ, e1, e2, Int.pow_succ, Int.ediv_ediv_of_nonneg (Int.le_of_lt (two_pow_pos k))]
      rw [e, ih]
      have ek : k + 1 + r.length = k + (r.length + 1) := by (first | lia | omega)
      rw [ek]
  intro l
  have := all l 0
  rw [Int.pow_zero, Int.ediv_one, Nat.zero_add] at this
  exact this
theorem wt_snoc (ns : List Int) (b : Int) : wt (ns ++ [b]) = wt ns + b * 2 ^ ns.length := by
  have all : ∀ (l : List Int) (v : Int), l.foldl (fun s b => 2 * s + b) v = l.foldl (fun s b => 2 * s + b) 0 + v * 2 ^ l.length := by
    intro l
    induction l with
    | nil => intro v; simp
    | cons a r ih =>
      intro v
      rw [List.foldl_cons, List.foldl_cons, ih (2 * v + a), ih (2 * 0 + a), List.length_cons, Int.pow_succ, Int.add_mul, Int.add_mul, Int.mul_comm (2 ^ r.length) 2, ← Int.mul_assoc, Int.mul_comm v 2]
      simp only [Int.mul_zero, Int.zero_mul]
      (first | lia | omega)
  unfold wt
  rw [List.reverse_append, List.reverse_singleton, List.singleton_append, List.foldl_cons, all, List.length_reverse]
  simp
theorem wt_nil : wt [] = 0 := rfl
theorem emod_two_pow_succ (n : Int) (k : Nat) : n % 2 ^ (k + 1) = n % 2 ^ k + n / 2 ^ k % 2 * 2 ^ k := by
  have hp := two_pow_pos k
  have h1 := Int.mul_ediv_add_emod n (2 ^ (k + 1))
  have h2 := Int.mul_ediv_add_emod n (2 ^ k)
  have h3 := Int.mul_ediv_add_emod (n / 2 ^ k) 2
  have h4 : n / 2 ^ k / 2 = n / 2 ^ (k + 1) := by rw [Int.pow_succ, Int.ediv_ediv_of_nonneg (Int.le_of_lt hp)]
  rw [h4] at h3
  rw [← h3, Int.mul_add] at h2
  have e : (2:Int) ^ (k + 1) * (n / 2 ^ (k + 1)) = 2 ^ k * (2 * (n / 2 ^ (k + 1))) := by rw [Int.pow_succ, Int.mul_assoc]
  rw [e] at h1
  rw [h4] at *
  have e5 : n / 2 ^ k % 2 * 2 ^ k = 2 ^ k * (n / 2 ^ k % 2) := Int.mul_comm _ _
  rw [e5]
  have e6 : (2 * (n / 2 ^ (k + 1)) + n / 2 ^ k % 2) % 2 = n / 2 ^ k % 2 := by (first | lia | omega)
  (first | lia | omega)
theorem wt_bitsN (n : Int) : ∀ k, wt (bitsN n k) = n % 2 ^ k
  | 0 => by rw [Int.pow_zero, Int.emod_one]; rfl
  | k + 1 => by rw [bitsN_succ, wt_snoc, bitsN_length, wt_bitsN n k, emod_two_pow_succ]
theorem bitsN_take (n : Int) (k j : Nat) (h : j ≤ k) : (bitsN n k).take j = bitsN n j := by
  unfold bitsN
  rw [← List.map_take, List.take_range, Nat.min_eq_left h]
theorem bitsN_get (n : Int) (k i : Nat) (h : i < k) : (bitsN n k).getD i 0 = n / 2 ^ i % 2 := by
  rw [List.getD_eq_getElem?_getD]
  simp [bitsN, h]
theorem bitsN_drop (n : Int) (k j : Nat) : (bitsN n k).drop j = bitsN (n / 2 ^ j) (k - j) := by
  apply List.ext_getElem?
  intro i
  rw [List.getElem?_drop]
  by_cases h : j + i < k
  · have h' : i < k - j := by (first | lia | omega)
    simp only [bitsN, List.getElem?_map, List.getElem?_range h, List.getElem?_range h', Option.map_some]
    rw [Int.ediv_ediv_of_nonneg (Int.le_of_lt (two_pow_pos j)), ← Int.pow_add]
  · have h' : ¬ i < k - j := by (first | lia | omega)
    rw [List.getElem?_eq_none (by rw [bitsN_length]; (first | lia | omega)), List.getElem?_eq_none (by rw [bitsN_length]; (first | lia | omega))]
theorem signed_bits {n : Int} (h0 : 0 ≤ n) (h1 : n < WORD) : wt ((bitsN n 256).take 255) - 2 ^ 255 * (bitsN n 256).getD 255 0 = withSign n := by
  rw [bitsN_take n 256 255 (by decide), wt_bitsN, bitsN_get n 256 255 (by decide)]
  have e : (2 : Int) ^ 255 = HALF := by decide +kernel
  rw [e]
  unfold withSign
  simp only [HALF, WORD] at *
  split <;> (first | lia | omega)
theorem bits_edv {x y : Int} {n : Nat} (h : Builtin.Int.intBits x ≤ n) (hx : 0 ≤ x) (hy : 0 < y) : Builtin.Int.intBits (x / y) ≤ n := by
  refine intBits_le_of_natAbs ?_ h
  have h1 := Int.ediv_nonneg hx (Int.le_of_lt hy)
  have h2 := Int.ediv_le_self y hx
  (first | lia | omega)
theorem bits_emd {x y : Int} {n : Nat} (h : Builtin.Int.intBits x ≤ n) (hx : 0 ≤ x) (hy : 0 < y) : Builtin.Int.intBits (x % y) ≤ n := by
  refine intBits_le_of_natAbs ?_ h
  have h1 := Int.emod_nonneg x (Int.ne_of_gt hy)
  have h2 := Int.mul_ediv_add_emod x y
  have h3 := Int.mul_nonneg (Int.le_of_lt hy) (Int.ediv_nonneg hx (Int.le_of_lt hy))
  (first | lia | omega)

end MB2S
section WellLS
section
variable {prog : Program} {w : World} {A : Around} {E : Value → Shared → Prop} {env : Env}
theorem hide_keep {h : Heap} {wr : List Addr} {b : Addr} {o : Obj} (e : (hideAll h wr).get? b = some o) : h.get? b = some o ∧ b ∉ wr :=
  ⟨of_hideAll wr e, fun hm => by rw [hideAll_none wr hm] at e; cases e⟩
theorem compK {elt iter : Expr} {x : Str} {px : Pos} {scope : Scope} {cl : List (Str × Addr)} {pos : Pos} {s₂ : Shared} {I : Addr} {fp wr : List Addr} {n : Nat} {P : Nat → Value → Prop} {St : Nat → Heap → Prop} {Q : Value → Shared → Prop}
    (W : Walks prog w A I fp wr n P St) (hsz : n ≤ sizeLine) (G : Nat → Value → Prop)
    (hcell : ∀ y ∈ scope.names, y.2 ≠ .cell) (hkind : scope.kind = .function) (hx : scope.names.lookup x = some .local) (hst : St 0 s₂.heap) (hfp : ∀ b ∈ fp, b < s₂.heap.objs.size) (hfw : ∀ b ∈ fp, b ∉ wr → ∃ o, s₂.heap.get? b = some o)
    (helt : ∀ i v C D (ys : List Value) ep own h tk m E', i < n → P i v → m x = some v → Fr (hideAll s₂.heap wr) C h m → News (hideAll s₂.heap wr) C h ((D, listOf ys.toArray ep) :: own) → (∀ p ∈ own, p.1 ≠ D) →
      wpAny (model prog w) A (eval elt (compEnvC scope cl C env)) (fun y s₃ => ∃ h' tk' m', s₃ = { s₂ with heap := h', toks := tk' } ∧ Fr (hideAll s₂.heap wr) C h' m' ∧ News (hideAll s₂.heap wr) C h' ((D, listOf ys.toArray ep) :: own) ∧ G i y) E' { s₂ with heap := h, toks := tk })
    (done : ∀ D h' tk (ys : List Value) ep, s₂.heap.get? D = none → h'.get? D = some (listOf ys.toArray ep) → ys.length = n → (∀ i, i < n → ∃ y, ys[i]? = some y ∧ G i y) → (∀ b o, b ∉ wr → s₂.heap.get? b = some o → h'.get? b = some o) → Q (.ref D) { s₂ with heap := h', toks := tk }) :
    wpAny (model prog w) A (newList []) (fun acc s₃ => wpAny (model prog w) A (newFunctionEnv scope env.globals cl [] env.qual none .none (some env)) (fun cenv s₄ =>
      codeAny (model prog w) A (.compStart (.ListComp elt [⟨.Name x px, iter, [], 0⟩] scope pos) 0 (.ref I) acc { cenv with scope := relabel scope env }) (compPost (model prog w) A E none Q acc cenv.locals) s₄) E s₃) E s₂ := by
  refine wpAny_newObj_type (wpAny_newFunctionEnv hcell (by intro y hy; simp at hy) (fun h₁ hns₁ hsb₁ => ?_) hkind)
  dsimp only at hns₁ hsb₁ ⊢
  generalize hH2 : s₂.heap.push { cls := .type "list", dict := none, data := .seq ([] : List Value).toArray } = H2 at hns₁ hsb₁ ⊢
  have hC : H2.objs.size = s₂.heap.objs.size + 1 := by rw [← hH2, Heap.size_push]
  have hDC : s₂.heap.objs.size ≠ H2.objs.size := by rw [hC]; exact Nat.ne_of_lt (Nat.lt_succ_self _)
  have below : ∀ b, b < s₂.heap.objs.size → b ≠ H2.objs.size ∧ b ≠ s₂.heap.objs.size := fun b hb => ⟨by rw [hC]; exact Nat.ne_of_lt (Nat.lt_succ_of_lt hb), Nat.ne_of_lt hb⟩
  have old : ∀ b o, s₂.heap.get? b = some o → h₁.get? b = some o := fun b o e => hsb₁.extBut b o (below b (Heap.lt_size e)).1 (Heap.get?_push_of_some _ (hH2 ▸ Heap.get?_push_of_some _ e))
  have hacc : h₁.get? s₂.heap.objs.size = some (listOf ([] : List Value).toArray 0) := hsb₁.extBut _ _ hDC (Heap.get?_push_of_some _ (hH2 ▸ Heap.get?_push_size _ rfl))
  have hst₁ : St 0 h₁ := W.frame _ _ _ hst fun b _ o e => old b o e
  have fresh : ∀ a, s₂.heap.objs.size ≤ a → s₂.heap.get? a = none := fun a ha => by
    cases e : s₂.heap.get? a with
    | none => rfl
    | some o' => exact absurd (Heap.lt_size e) (Nat.not_lt.mpr ha)
  have hfp' : ∀ b ∈ fp, b < s₂.heap.objs.size := hfp
  generalize hDd : s₂.heap.objs.size = D at hC hDC below hacc fresh hfp' hns₁ hsb₁ ⊢
  generalize hCd : H2.objs.size = C at hC hDC below hns₁ hsb₁ ⊢
  have gnone : (hideAll s₂.heap wr).get? D = none := by
    cases e : (hideAll s₂.heap wr).get? D with
    | none => rfl
    | some o => have := (hide_keep e).1; rw [fresh D (Nat.le_refl _)] at this; cases this
  have hCf : C ∉ fp := fun hm => by have h9 := hfp' _ hm; rw [hC] at h9; exact absurd (Nat.lt_of_succ_lt h9) (Nat.lt_irrefl _)
  have hDf : D ∉ fp := fun hm => absurd (hfp' _ hm) (Nat.lt_irrefl _)
  have hCw : C ∉ wr := fun h => hCf (W.sub _ h)
  have F₁ : Fr (hideAll s₂.heap wr) C h₁ (fun _ => none) := ⟨hns₁, fun b o e => old b o (hide_keep e).1, by rw [hideAll_size]; (first | lia | omega)⟩
  have loop : ∀ s₃ : Shared, s₃ = { s₂ with heap := h₁, toks := s₂.toks + ([] : List (Str × Value)).length } →
      codeAny (model prog w) A (.compLoop (.ListComp elt [⟨.Name x px, iter, [], 0⟩] scope pos) 0 (.ref I) (.ref D) (compEnvC scope cl C env)) (compPost (model prog w) A E none Q (.ref D) C) s₃ := by
    rintro s₃ rfl
    refine codeAny_compLoop_list (fun k s' => ∃ (h : Heap) (tk : Nat) (m : Str → Option Value) (i : Nat) (ys : List Value) (ep : Nat), s' = { s₂ with heap := h, toks := tk } ∧ k = n + 1 - i ∧ i ≤ n ∧ Fr (hideAll s₂.heap wr) C h m ∧ h.get? D = some (listOf ys.toArray ep) ∧ St i h ∧ ys.length = i ∧ ∀ j, j < i → ∃ y, ys[j]? = some y ∧ G j y)
      ?_ (n + 1) ⟨h₁, _, _, 0, [], 0, rfl, rfl, Nat.zero_le _, F₁, hacc, hst₁, rfl, fun j hj => absurd hj (Nat.not_lt_zero _)⟩
    intro k s' hI9
    refine nameP ?_
    intro GG
    obtain ⟨h, tk, m, i, ys, ep, es9, ek9, hin, F, hD, hS, hlen, hG⟩ := hI9
    unfold GG
    clear GG
    subst es9 ek9
    by_cases hlt : i < n
    · refine W.item i _ _ _ hlt hS fun v h₂ tk₂ hP hS₂ hk₂ => ?_
      have F₂ : Fr (hideAll s₂.heap wr) C h₂ m := ⟨F.ns.at' fun o e => hk₂ _ o hCw e, fun b o e => hk₂ b o (hide_keep e).2 (F.keep b o e), F.above⟩
      refine wpAny_assign_Name (wpAny_storeName_local (lookup_relabel_local hx) F₂.ns (fun h₃ hn₃ hs₃ => ?_) (by simp [compEnvC, relabel, hkind]))
      have F₃ := F₂.set hn₃ hs₃
      have hS₃ : St (i + 1) h₃ := W.frame _ _ _ hS₂ fun b hb o e => hs₃.extBut b o (fun q => hCf (by have q' : b = C := q; exact q' ▸ hb)) e
      have hDw : D ∉ wr := fun q => hDf (W.sub _ q)
      have hD₃ : h₃.get? D = some (listOf ys.toArray ep) := hs₃.extBut D _ hDC (hk₂ D _ hDw hD)
      let own : List (Addr × Obj) := wr.filterMap fun b => (h₃.get? b).map fun o => (b, o)
      have ownI : ∀ p ∈ own, p.1 ∈ wr ∧ h₃.get? p.1 = some p.2 := by
        intro p hp
        obtain ⟨b, hb, e⟩ := List.mem_filterMap.mp hp
        obtain ⟨o, ho, rfl⟩ := Option.map_eq_some_iff.mp e
        exact ⟨hb, ho⟩
      have N₃ : News (hideAll s₂.heap wr) C h₃ ((D, listOf ys.toArray ep) :: own) := by
        intro p hp
        rcases List.mem_cons.mp hp with rfl | hp
        · exact ⟨hD₃, hDC, gnone⟩
        · obtain ⟨a, b⟩ := ownI p hp
          exact ⟨b, fun q => hCw (q ▸ a), hideAll_none wr a⟩
      refine wpAny_mono (helt i v C D ys ep own h₃ _ _ _ hlt hP (by simp) F₃ N₃ fun p hp q => hDw (q ▸ (ownI p hp).1)) (fun y s₃ hy => ?_) fun _ _ e => e
      refine nameP ?_
      intro GG
      obtain ⟨h₄, tk₄, m₄, es9, F₄, N₄, hg⟩ := hy
      unfold GG
      clear GG
      subst es9
      have hD₄ := (N₄ _ (List.mem_cons_self ..)).1
      have hS₄ : St (i + 1) h₄ := W.frame _ _ _ hS₃ fun b hb o e => by
        by_cases hw : b ∈ wr
        · exact (N₄ (b, o) (List.mem_cons_of_mem _ (List.mem_filterMap.mpr ⟨b, hw, by rw [e]; rfl⟩))).1
        · obtain ⟨o', ho'⟩ := hfw b hb hw
          have hg' : (hideAll s₂.heap wr).get? b = some o' := hideAll_get wr ho' hw
          have e1 := F₃.keep b o' hg'
          rw [e] at e1
          cases e1
          exact F₄.keep b o hg'
      refine append_at (hsz := ?_) hD₄ fun h₅ hs₅ hD₅ => ?_
      · refine ⟨n + 1 - (i + 1), by (first | lia | omega), h₅, _, m₄, i + 1, ys ++ [y], ep + 1, rfl, rfl, hlt, F₄.change hs₅ hDC gnone, ?_, W.frame _ _ _ hS₄ fun b hb o e => hs₅.extBut b o (fun q => hDf (q ▸ hb)) e, ?_, ?_⟩
        · rw [hD₅]; simp
        · rw [List.length_append, hlen]; rfl
        · intro j hj
          by_cases hj' : j < i
          · obtain ⟨z, hz, hgz⟩ := hG j hj'
            exact ⟨z, by rw [List.getElem?_append_left (by (first | lia | omega))]; exact hz, hgz⟩
          · have : j = i := by (first | lia | omega)
            subst this
            exact ⟨y, by rw [← hlen]; simp, hg⟩
      · rw [List.size_toArray, hlen]; exact Nat.le_trans hin hsz
    · have hi : i = n := by (first | lia | omega)
      subst hi
      refine W.done _ _ _ hS fun h₂ tk₂ hk₂ => ?_
      refine ⟨m, F.ns.at' fun o e => hk₂ _ o hCw e, fun h₃ hs₃ => ?_⟩
      have hDw : D ∉ wr := fun q => hDf (W.sub _ q)
      exact done D h₃ _ ys ep (fresh D (Nat.le_refl _)) (hs₃.extBut D _ hDC (hk₂ D _ hDw hD)) hlen hG fun b o hb e =>
        hs₃.extBut b o (fun q => by rw [q, fresh C (by (first | lia | omega))] at e; cases e) (hk₂ b o hb (F.keep b o (hideAll_get wr e hb)))
  exact codeAny_compStart_list (loop _ rfl) (W.self 0 _ _ _ hst₁ (loop _ rfl))
end
theorem intsAre_of {ys : List Value} {ns : List Int} (hl : ys.length = ns.length) (h : ∀ (i : Nat) (n : Int), ns[i]? = some n → ∃ t, ys[i]? = some (Value.int n t)) : IntsAre ys ns := by
  induction ns generalizing ys with
  | nil => cases ys with
    | nil => exact .nil
    | cons y r => cases hl
  | cons n r ih => cases ys with
    | nil => cases hl
    | cons y q =>
      obtain ⟨t, e⟩ := h 0 n rfl
      simp only [List.getElem?_cons_zero, Option.some.injEq] at e
      subst e
      exact .cons n t (ih (by simpa using hl) fun i m e => by simpa using h (i + 1) m (by simpa using e))
section
variable {M : Model} {A : Around} {E : Value → Shared → Prop} {s : Shared} {g : Heap} {C c : Addr} {m : Str → Option Value} {scope : Scope} {cl : List (Str × Addr)} {env : Env} {x : Str} {pos : Pos} {v : Value} {o : Obj} {Q : Value → Shared → Prop}
theorem cn_own (F : Fr g C s.heap m) (hm : m x = some v) (h : Q v s) (hk : (compEnvC scope cl C env).scope.kind = .function) (hl : (compEnvC scope cl C env).kindOf x = some .local) (hd : (x == ("__debug__" : Str)) = false := by decide) :
    wpAny M A (eval (.Name x pos) (compEnvC scope cl C env)) Q E s := ldVarK F.ns hm h hk hl hd
theorem cn_cell (F : Fr g C s.heap m) (hc : cl.lookup x = some c) (hg : g.get? c = some o) (hd : o.data = .cell (some v)) (h : Q v s)
    (hk : (compEnvC scope cl C env).scope.kind = .function) (hx : (compEnvC scope cl C env).kindOf x = some .cell) (hb : (x == ("__debug__" : Str)) = false := by decide) :
    wpAny M A (eval (.Name x pos) (compEnvC scope cl C env)) Q E s := wpAny_Name (wpAny_loadName_cell hk hx hc ⟨o, F.keep _ _ hg, hd⟩ h) hb
theorem cl_hd {x : Str} {c : Addr} {r : List (Str × Addr)} : ((x, c) :: r).lookup x = some c := List.lookup_cons_self
theorem isList_keeps {h h' : Heap} {l : Addr} {vs : Array Value} (x : h.IsList l vs) (k : Ext h h') : h'.IsList l vs := let ⟨o, e, r⟩ := x; ⟨o, k _ _ e, r⟩
end
theorem reg12 : True := by
  k_with "eval Name" => ((k_here; (with_reducible show wpAny _ _ (eval (Expr.Name _ _) (compEnvC _ _ _ _)) _ _ _); k_dflt (first
  | (refine' cn_own ?zqF ?zqm ?_ ?zqa ?zqb; (case zqF => k_asm); (case zqm => with_reducible assumption); (case zqa => rfl); (case zqb => rfl))
  | (refine' cn_cell ?zqF ?zqc ?zqg ?zqd ?_ ?zqa ?zqb; (case zqF => k_asm); (case zqc => first | with_reducible exact cl_hd | rfl); (case zqg => with_reducible assumption); (case zqd => with_reducible assumption); (case zqa => rfl); (case zqb => rfl)))))
  trivial
section
variable {prog : Program} {w : World} {A : Around} {E : Value → Shared → Prop} {env : Env} {h₀ : Heap} {L : Addr} {m : Str → Option Value}
noncomputable def CPost (g : Heap) (C D : Addr) (s : Shared) (ys : List Value) (ep : Nat) (own : List (Addr × Obj)) (val : Int) (y : Value) (s₃ : Shared) : Prop :=
  ∃ h' tk' m', s₃ = { s with heap := h', toks := tk' } ∧ Fr g C h' m' ∧ News g C h' ((D, listOf ys.toArray ep) :: own) ∧ ∃ t, y = .int val t
theorem CPost.intro {g : Heap} {C D : Addr} {s : Shared} {ys : List Value} {ep : Nat} {own : List (Addr × Obj)} {val x : Int} {t : Tok} {h' : Heap} {tk : Nat} {m' : Str → Option Value} {news : List (Addr × Obj)} (F : Fr g C h' m') (N : News g C h' news)
    (hs : ∀ p ∈ (D, listOf ys.toArray ep) :: own, p ∈ news) (e : x = val) : CPost g C D s ys ep own val (.int x t) { s with heap := h', toks := tk } := ⟨h', tk, m', rfl, F, fun p hp => N p (hs p hp), t, by rw [e]⟩
theorem compRange {elt iter : Expr} {x : Str} {px : Pos} {scope : Scope} {cl : List (Str × Addr)} {pos : Pos} {s : Shared} {r : Addr} {a b c : Int} {t u v : Tok} {n : Nat} {Q : Value → Shared → Prop} {news : List (Addr × Obj)} (val : Nat → Int)
    (F : Fr h₀ L s.heap m) (N : News h₀ L s.heap news) (hh : A.handled = none) (hr : IsRange s.heap r a b c t u v) (hsmall : Builtin.Range.small a b c = true) (hn : Builtin.Range.rangeSize a b c = (n : Int)) (hsz : n ≤ sizeLine)
    (hcell : ∀ y ∈ scope.names, y.2 ≠ .cell) (hkind : scope.kind = .function) (hx : scope.names.lookup x = some .local)
    (helt : ∀ (g : Heap) i t C D (ys : List Value) ep own h tk m' E', Ext h₀ g → (∀ p ∈ news, g.get? p.1 = some p.2) → i < n → m' x = some (.int (a + i * c) t) → Fr g C h m' → News g C h ((D, listOf ys.toArray ep) :: own) → (∀ p ∈ own, p.1 ≠ D) →
      wpAny (model prog w) A (eval elt (compEnvC scope cl C env)) (CPost g C D s ys ep own (val i)) E' { s with heap := h, toks := tk })
    (done : ∀ D h' tk (ys : List Value) ep, Fr h₀ L h' m → News h₀ L h' ((D, listOf ys.toArray ep) :: news) → AllNe D news → IntsAre ys ((List.range n).map val) → Q (.ref D) { s with heap := h', toks := tk }) :
    wpAny (model prog w) A (pyIter (.ref r)) (fun it s₂ => wpAny (model prog w) A (newList []) (fun acc s₃ => wpAny (model prog w) A (newFunctionEnv scope env.globals cl [] env.qual none .none (some env)) (fun cenv s₄ =>
      codeAny (model prog w) A (.compStart (.ListComp elt [⟨.Name x px, iter, [], 0⟩] scope pos) 0 it acc { cenv with scope := relabel scope env }) (compPost (model prog w) A E none Q acc cenv.locals) s₄) E s₃) E s₂) E s := by
  refine wpAny_pyIter_range hr hsmall ?_
  have up : ∀ q o, s.heap.get? q = some o → (s.heap.push { cls := .type "range_iterator", data := .fields #[rawInt a, rawInt (Builtin.Range.rangeSize a b c), rawInt c] }).get? q = some o := fun q o e => Heap.get?_push_of_some _ e
  have off : ∀ b o, s.heap.get? b = some o → b ∉ [s.heap.objs.size] := fun b o e hm => by
    rw [List.mem_singleton.mp hm] at e
    exact absurd (Heap.lt_size e) (Nat.lt_irrefl _)
  refine compK (Walks.range hh s.heap.objs.size a c n) hsz (fun i y => ∃ t, y = .int (val i) t) hcell hkind hx ?_ ?_ ?_ ?_ ?_
  · show IsRangeIter _ _ _ _ _; rw [hn]; simpa using Heap.get?_push_size _ rfl
  · intro b hb; rw [List.mem_singleton.mp hb]; show _ < (s.heap.push _).objs.size; rw [Heap.size_push]; exact Nat.lt_succ_self _
  · intro b hb hb'; exact absurd hb hb'
  · rintro i v' C D ys ep own h tk m' E' hi ⟨t', rfl⟩ hm F' N' hD
    have k : Ext s.heap _ := fun b o e => hideAll_get _ (up b o e) (off b o e)
    exact helt _ i t' C D ys ep own h tk m' E' (fun b o e => k b o (F.keep b o e)) (fun p hp => k _ _ (N p hp).1) hi hm F' N' hD
  · intro D h' tk ys ep hnone hD hlen hys hk
    have k : ∀ b o, s.heap.get? b = some o → h'.get? b = some o := fun b o e => hk b o (off b o e) (up b o e)
    have hDn : s.heap.get? D = none := by
      cases e : s.heap.get? D with
      | none => rfl
      | some o => have := up D o e; rw [hnone] at this; cases this
    refine done D h' tk ys ep (fr_ext F k) (news_new F N k hDn hD) (news_ne N hDn) (intsAre_of (by simp [hlen]) fun i z hz => ?_)
    rw [List.getElem?_map] at hz
    obtain ⟨j, hj, rfl⟩ := Option.map_eq_some_iff.mp hz
    have hi : i < n := by
      have := (List.getElem?_eq_some_iff.mp hj).1
      simpa using this
    rw [List.getElem?_range hi] at hj
    cases hj
    obtain ⟨y, hy, t', e'⟩ := hys i hi
    exact ⟨t', e' ▸ hy⟩
end
section
variable {prog : Program} {w : World} {A : Around} {E : Value → Shared → Prop} {env : Env} {h₀ : Heap} {L : Addr} {m : Str → Option Value}
noncomputable def CPostP (g : Heap) (C D : Addr) (s : Shared) (ys : List Value) (ep : Nat) (own : List (Addr × Obj)) (G : Int → Prop) (y : Value) (s₃ : Shared) : Prop :=
  ∃ h' tk' m', s₃ = { s with heap := h', toks := tk' } ∧ Fr g C h' m' ∧ News g C h' ((D, listOf ys.toArray ep) :: own) ∧ ∃ x t, y = .int x t ∧ G x
theorem CPostP.intro {g : Heap} {C D : Addr} {s : Shared} {ys : List Value} {ep : Nat} {own : List (Addr × Obj)} {G : Int → Prop} {x : Int} {t : Tok} {h' : Heap} {tk : Nat} {m' : Str → Option Value} {news : List (Addr × Obj)} (F : Fr g C h' m') (N : News g C h' news)
    (hs : ∀ p ∈ (D, listOf ys.toArray ep) :: own, p ∈ news) (e : G x) : CPostP g C D s ys ep own G (.int x t) { s with heap := h', toks := tk } := ⟨h', tk, m', rfl, F, fun p hp => N p (hs p hp), x, t, rfl, e⟩
theorem intsAre_some {ys : List Value} {G : Int → Prop} (h : ∀ y ∈ ys, ∃ x t, y = Value.int x t ∧ G x) : ∃ ns : List Int, IntsAre ys ns ∧ ∀ x ∈ ns, G x := by
  induction ys with
  | nil => exact ⟨[], .nil, fun _ h => nomatch h⟩
  | cons y r ih =>
    obtain ⟨ns, a, b⟩ := ih fun z hz => h z (.tail _ hz)
    obtain ⟨x, t, rfl, hg⟩ := h y (.head _)
    exact ⟨x :: ns, .cons x t a, fun z hz => by
      rcases List.mem_cons.mp hz with rfl | hz
      · exact hg
      · exact b z hz⟩
theorem compRangeP {elt iter : Expr} {x : Str} {px : Pos} {scope : Scope} {cl : List (Str × Addr)} {pos : Pos} {s : Shared} {r : Addr} {a b c : Int} {t u v : Tok} {n : Nat} {Q : Value → Shared → Prop} {news : List (Addr × Obj)} (G : Int → Prop)
    (F : Fr h₀ L s.heap m) (N : News h₀ L s.heap news) (hh : A.handled = none) (hr : IsRange s.heap r a b c t u v) (hsmall : Builtin.Range.small a b c = true) (hn : Builtin.Range.rangeSize a b c = (n : Int)) (hsz : n ≤ sizeLine)
    (hcell : ∀ y ∈ scope.names, y.2 ≠ .cell) (hkind : scope.kind = .function) (hx : scope.names.lookup x = some .local)
    (helt : ∀ (g : Heap) i t C D (ys : List Value) ep own h tk m' E', Ext h₀ g → (∀ p ∈ news, g.get? p.1 = some p.2) → i < n → m' x = some (.int (a + i * c) t) → Fr g C h m' → News g C h ((D, listOf ys.toArray ep) :: own) → (∀ p ∈ own, p.1 ≠ D) →
      wpAny (model prog w) A (eval elt (compEnvC scope cl C env)) (CPostP g C D s ys ep own G) E' { s with heap := h, toks := tk })
    (done : ∀ D h' tk (ys : List Value) ep, Fr h₀ L h' m → News h₀ L h' ((D, listOf ys.toArray ep) :: news) → AllNe D news → ys.length = n → (∃ ns : List Int, IntsAre ys ns ∧ ∀ x ∈ ns, G x) → Q (.ref D) { s with heap := h', toks := tk }) :
    wpAny (model prog w) A (pyIter (.ref r)) (fun it s₂ => wpAny (model prog w) A (newList []) (fun acc s₃ => wpAny (model prog w) A (newFunctionEnv scope env.globals cl [] env.qual none .none (some env)) (fun cenv s₄ =>
      codeAny (model prog w) A (.compStart (.ListComp elt [⟨.Name x px, iter, [], 0⟩] scope pos) 0 it acc { cenv with scope := relabel scope env }) (compPost (model prog w) A E none Q acc cenv.locals) s₄) E s₃) E s₂) E s := by
  refine wpAny_pyIter_range hr hsmall ?_
  have up : ∀ q o, s.heap.get? q = some o → (s.heap.push { cls := .type "range_iterator", data := .fields #[rawInt a, rawInt (Builtin.Range.rangeSize a b c), rawInt c] }).get? q = some o := fun q o e => Heap.get?_push_of_some _ e
  have off : ∀ b o, s.heap.get? b = some o → b ∉ [s.heap.objs.size] := fun b o e hm => by
    rw [List.mem_singleton.mp hm] at e
    exact absurd (Heap.lt_size e) (Nat.lt_irrefl _)
  refine compK (Walks.range hh s.heap.objs.size a c n) hsz (fun _ y => ∃ x t, y = .int x t ∧ G x) hcell hkind hx ?_ ?_ ?_ ?_ ?_
  · show IsRangeIter _ _ _ _ _; rw [hn]; simpa using Heap.get?_push_size _ rfl
  · intro b hb; rw [List.mem_singleton.mp hb]; show _ < (s.heap.push _).objs.size; rw [Heap.size_push]; exact Nat.lt_succ_self _
  · intro b hb hb'; exact absurd hb hb'
  · rintro i v' C D ys ep own h tk m' E' hi ⟨t', rfl⟩ hm F' N' hD
    have k : Ext s.heap _ := fun b o e => hideAll_get _ (up b o e) (off b o e)
    exact helt _ i t' C D ys ep own h tk m' E' (fun b o e => k b o (F.keep b o e)) (fun p hp => k _ _ (N p hp).1) hi hm F' N' hD
  · intro D h' tk ys ep hnone hD hlen hys hk
    have k : ∀ b o, s.heap.get? b = some o → h'.get? b = some o := fun b o e => hk b o (off b o e) (up b o e)
    have hDn : s.heap.get? D = none := by
      cases e : s.heap.get? D with
      | none => rfl
      | some o => have := up D o e; rw [hnone] at this; cases this
    refine done D h' tk ys ep (fr_ext F k) (news_new F N k hDn hD) (news_ne N hDn) hlen (intsAre_some fun y hy => ?_)
    obtain ⟨i, hi⟩ := List.mem_iff_getElem?.mp hy
    obtain ⟨z, hz, r⟩ := hys i (by have := (List.getElem?_eq_some_iff.mp hi).1; (first | lia | omega))
    rw [hi] at hz
    cases hz
    exact r
end
noncomputable abbrev wellO (C : Addr) (i r : Int) (t u : Tok) (n : Nat) : Obj := listOf ([Value.ref C, Value.int i t, Value.int r u] : List Value).toArray n
noncomputable def WellAt (h : Heap) (W C : Addr) : Prop := ∃ i r t u n, h.get? W = some (wellO C i r t u n) ∧ 0 ≤ i ∧ 0 ≤ r ∧ r < 65537
noncomputable def MSpec (w : World) (k : Nat) (f : Addr) (args : List Value) (W C : Addr) (cs : List Int) (Post : Heap → Heap → Value → Prop) : Prop :=
  ∀ (s : Shared) (Q E : Value → Shared → Prop) (dp un : Nat) (gd : Option (List Code)) (outer : List Env), Room k dp un → Wd w (hideAll s.heap [W]) → WellAt s.heap W C → IsL (hideAll s.heap [W]) C cs →
    (∀ v h' tk, Ext (hideAll s.heap [W]) h' → WellAt h' W C → Post (hideAll s.heap [W]) h' v → Q v { s with heap := h', toks := tk }) → wpAny (model PR w) (mkA dp un gd outer) (call (.ref f) args) Q E s
theorem hide_ext (h : Heap) (wr : List Addr) : Ext (hideAll h wr) h := fun _ _ e => of_hideAll wr e
section
variable {w : World} {h h' : Heap} {W C L : Addr} {m : Str → Option Value} {o : Obj}
theorem hide_fr (F : Fr h L h' m) (W : Addr) : Fr (hideAll h [W]) L h' m := ⟨F.ns, fun b o e => F.keep b o (hide_ext _ _ b o e), by rw [hideAll_size]; exact F.above⟩
theorem hide_news (F : Fr h L h' m) (e : h.get? W = some o) : News (hideAll h [W]) L h' [(W, o)] := by
  intro p hp
  rw [List.mem_singleton.mp hp]
  exact ⟨F.keep _ _ e, Nat.ne_of_lt (Nat.lt_of_lt_of_le (Heap.lt_size e) F.above), hideAll_none [W] (.head _)⟩
end
section
variable {w : World} {s : Shared} {Q E : Value → Shared → Prop} {k n dp un : Nat} {gd : Option (List Code)} {outer : List Env} {f : Addr} {args : List Value} {W C : Addr} {cs : List Int}
  {g : Heap} {L : Addr} {m : Str → Option Value} {news rest : List (Addr × Obj)} {mean : ExcName → Option Value} {mg mb : Str → Option Value} {i r : Int} {t u : Tok} {nn : Nat}
theorem allNe_to {d : Addr} {l : List (Addr × Obj)} (h : AllNe d l) : ∀ p ∈ l, p.1 ≠ d := by
  induction l with
  | nil => intro p hp; cases hp
  | cons q r ih =>
    intro p hp
    rcases List.mem_cons.mp hp with e | hp
    · rw [e]; exact h.1
    · exact ih h.2 p hp
theorem MSpec.use {Post : Heap → Heap → Value → Prop} (S : MSpec w k f args W C cs Post) (R : Room n dp un) (F : Fr g L s.heap m) (N : News g L s.heap news) (X : (hd.heap_39 w.params).In g) (T : Top VW LS mean mg mb g)
    (hm : (W, wellO C i r t u nn) ∈ news) (hi : 0 ≤ i) (hr : 0 ≤ r) (hr2 : r < 65537) (hc : IsL (hideAll s.heap [W]) C cs) (hk : k ≤ n) (hrest : ∀ p ∈ rest, p ∈ news) (hne : AllNe W rest)
    (h : ∀ v h' tk i' r' t' u' nn', Fr g L h' m → News g L h' ((W, wellO C i' r' t' u' nn') :: rest) → 0 ≤ i' → 0 ≤ r' → r' < 65537 → Post (hideAll s.heap [W]) h' v → Q v { s with heap := h', toks := tk }) : wpAny (model PR w) (mkA dp un gd outer) (call (.ref f) args) Q E s := by
  have NW := N _ hm
  have k0 : Ext g (hideAll s.heap [W]) := fun b o e => by
    have hb : b ≠ W := fun q => by rw [q, NW.2.2] at e; cases e
    exact hideAll_get _ (F.keep b o e) (by simpa using hb)
  refine S s Q E dp un gd outer (R.le hk) ⟨X.keeps k0, _, _, _, T.keeps k0⟩ ⟨i, r, t, u, nn, NW.1, hi, hr, hr2⟩ hc fun v h' tk hE hA9 hP => ?_
  refine nameP ?_
  intro GG
  obtain ⟨i', r', t', u', nn', a1, a2, a3, a4⟩ := hA9
  unfold GG
  clear GG
  have keepL : ∀ o, s.heap.get? L = some o → h'.get? L = some o := fun o e => hE L o (hideAll_get _ e (by simpa using Ne.symm NW.2.1))
  refine h v h' tk i' r' t' u' nn' ⟨F.ns.at' (@keepL), fun b o e => hE b o (k0 b o e), F.above⟩ (fun p hp => ?_) a2 a3 a4 hP
  rcases List.mem_cons.mp hp with rfl | hp
  · exact ⟨a1, NW.2⟩
  · have q := N p (hrest p hp)
    exact ⟨hE _ _ (hideAll_get _ q.1 (by simpa using allNe_to hne p hp)), q.2⟩
end
section
variable {s : Shared} {Q : Value → Shared → Prop} {W C L : Addr} {g h : Heap} {m : Str → Option Value} {v : Value} {tk : Nat} {news : List (Addr × Obj)} {i r : Int} {t u : Tok} {nn : Nat} {Post : Heap → Heap → Value → Prop}
theorem retM (hQ : ∀ v h' tk, Ext (hideAll s.heap [W]) h' → WellAt h' W C → Post (hideAll s.heap [W]) h' v → Q v { s with heap := h', toks := tk }) (F : Fr (hideAll s.heap [W]) L h m) (N : News (hideAll s.heap [W]) L h news) (hm : (W, wellO C i r t u nn) ∈ news)
    (hi : 0 ≤ i) (hr : 0 ≤ r) (hr2 : r < 65537) (hp : Post (hideAll s.heap [W]) h v) : Q v { s with heap := h, toks := tk } := hQ v h tk F.keep ⟨i, r, t, u, nn, (N _ hm).1, hi, hr, hr2⟩ hp
end
noncomputable abbrev PIn (lo hi : Int) : Heap → Heap → Value → Prop := fun _ _ v => ∃ x t, v = .int x t ∧ lo ≤ x ∧ x < hi
section
open PyProof.V PySem.Spec
variable {σ : Type} {prog : Program} {w : World} {A : Around} {E : Value → Shared → Prop} {Q : Flow → Shared → Prop} {s : Shared} {env : Env} {g : Heap} {x : Str} {body : List Stmt}
theorem forR {r : Addr} {a b c : Int} {t₀ u₀ v₀ : Tok} {n : Nat} {m₀ : Str → Option Value} {news : List (Addr × Obj)} (St : σ → List (Str × Value) × List (Addr × Obj)) (I : Nat → σ → Prop) (c₀ : σ)
    (hh : A.handled = none) (hr : IsRange s.heap r a b c t₀ u₀ v₀) (hsmall : Builtin.Range.small a b c = true) (hn : Builtin.Range.rangeSize a b c = (n : Int)) (F : Fr g env.locals s.heap m₀) (N : News g env.locals s.heap news) (hk : ∀ p ∈ (St c₀).1, m₀ p.1 = some p.2) (hld : ∀ p ∈ (St c₀).2, p ∈ news) (h0 : I 0 c₀)
    (turn : ∀ (c' : σ) (i : Nat) t (u : Str → Option Value) h tk own, i < n → OwnOff own ((St c₀).2.map (·.1)) → I i c' → Fr g env.locals h (fun y => if y = x then some (.int (a + i * c) t) else kB u ((St c').1) y) → News g env.locals h ((St c').2 ++ own) →
      wpAny (model prog w) A (execs body env) (FPost g env.locals { s with heap := h, toks := tk } St I i own ((St c₀).2.map (·.1)) Q) E { s with heap := h, toks := tk })
    (done : ∀ (c' : σ) (u : Str → Option Value) h tk, I n c' → Fr g env.locals h (kB u ((St c').1)) → News g env.locals h ((St c').2) → Q .next { s with heap := h, toks := tk }) :
    wpAny (model prog w) A (pyIter (.ref r)) (fun it s₂ => LoopAtV prog w A g env x body Q E it s₂) E s := by
  have N0 : News g env.locals s.heap ((St c₀).2) := fun p hp => N p (hld p hp)
  refine wpAny_pyIter_range hr hsmall ?_
  have W : Walks prog w A s.heap.objs.size [s.heap.objs.size] [s.heap.objs.size] n (fun i v => i < n ∧ ∃ t, v = .int (a + i * c) t)
      (fun i h => IsRangeIter h s.heap.objs.size (a + (i : Nat) * c) ((n : Int) - (i : Nat)) c) := (Walks.range hh _ a c n).bound
  let J' : Nat → (Str → Option Value) → List (Addr × Obj) → Prop := fun i m₁ news₁ => ∃ c' : σ, news₁ = (St c').2 ∧ news₁.map (·.1) = (St c₀).2.map (·.1) ∧ (∀ p ∈ (St c').1, m₁ p.1 = some p.2) ∧ I i c'
  refine ⟨_, _, _, n, _, _, m₀, (St c₀).2, J', rfl, W, ?_, ?_, ?_, (by show IsRangeIter _ _ _ _ _; rw [hn]; simpa using Heap.get?_push_size _ rfl), F.push _, (fun p hp => ⟨Heap.get?_push_of_some _ (N0 p hp).1, (N0 p hp).2⟩), ⟨c₀, rfl, rfl, hk, h0⟩, ?_, ?_⟩
  · intro hm
    exact absurd F.ns.lt ((List.mem_singleton.mp hm) ▸ Nat.lt_irrefl _)
  · intro b hb
    rw [List.mem_singleton.mp hb]
    exact next_is_new F
  · intro p hp hI
    exact absurd (Heap.lt_size (N0 p hp).1) ((List.mem_singleton.mp hI) ▸ Nat.lt_irrefl _)
  · rintro i v m₁ news₁ s₁ own ⟨hh', tk', rfl⟩ hin ⟨_, t, rfl⟩ ⟨c', rfl, hadr, h1, h2⟩ hoff hown _ _ _ F₁ N₁
    have hsep : OwnOff own ((St c₀).2.map (·.1)) := by
      intro p hp b hb e
      obtain ⟨q, hq, rfl⟩ := List.mem_map.mp hb
      have h1 := List.mem_singleton.mp (hown p hp)
      exact absurd (Heap.lt_size (N0 q hq).1) (by rw [← e, h1]; exact Nat.lt_irrefl _)
    have N₂ : News g env.locals hh' ((St c').2 ++ own) := fun p hp => N₁ p ((List.mem_append.mp hp).elim (fun h => List.mem_append.mpr (.inr h)) fun h => List.mem_append.mpr (.inl h))
    refine wpAny_mono (turn c' i t m₁ hh' tk' own hin hsep h2 (fr_namesX h1 F₁) N₂) (fun f s₂ p => ?_) fun _ _ e => e
    have fin : FEnd g env.locals { s with heap := hh', toks := tk' } St I i own ((St c₀).2.map (·.1)) s₂ → LoopStepU g env.locals [s.heap.objs.size] own (J' (i + 1)) { s with heap := hh', toks := tk' } .next s₂ := by
      rintro ⟨c'', h', tk, m', news', e, F', N', b1, hn', ho, ha, hm⟩
      refine ⟨rfl, h', tk, m', (St c'').2, e, F', fun p hp => N' p ((List.mem_append.mp hp).elim (ho p) (hn' p)), fun p hp hq => ?_, c'', rfl, ha, b1, hm⟩
      have h1 : p.1 ∈ (St c'').2.map (·.1) := List.mem_map.mpr ⟨p, hp, rfl⟩
      rw [ha, ← hadr] at h1
      obtain ⟨q, hq1, hq2⟩ := List.mem_map.mp h1
      exact hoff q hq1 (by rw [hq2]; exact hq)
    cases f with
    | ret v => exact .ret p
    | brk => exact .brk p
    | next => exact .next (fin p)
    | cont => exact .cont (fin p)
  · rintro h' tk m' news' F' N' _ ⟨c', rfl, _, h1, h2⟩
    exact done c' m' h' tk h2 (fr_names h1 F') N'
end
theorem fm_lo {a b : Int} (h : 0 < b) : 0 ≤ a.fmod b := by rw [Int.fmod_eq_emod_of_nonneg _ (Int.le_of_lt h)]; exact Int.emod_nonneg _ (Int.ne_of_gt h)
theorem fm_hi {a b : Int} (h : 0 < b) : a.fmod b < b := by rw [Int.fmod_eq_emod_of_nonneg _ (Int.le_of_lt h)]; exact Int.emod_lt_of_pos _ h
theorem law_draw_spec {w : World} (W C : Addr) (cs : List Int) (size : Int) (t : Tok) (hs : 0 < size) (hn : cs.length ≤ 60) : MSpec w 1 571 [.ref W, .int size t] W C cs (PIn 0 size) := by
  rintro s Q E dp un gd outer hR hX ⟨i, r, t1, t2, n, hW, hi, hr, hr2⟩ hC hQ
  have hX0 : Wd w s.heap := hX.keeps (hide_ext _ _)
  obtain ⟨X2, mean2, mg2, mb2, T2⟩ := hX
  obtain ⟨vs, hl, hI⟩ := hC.list
  have hlen : vs.length = cs.length := hI.length
  ktr_call [(Str.ofString "well", .ref W), (Str.ofString "size", .int size t)] hR
  rename Fr _ _ _ _ => F
  rename News _ _ _ _ => N
  rename Top _ _ _ _ _ _ => T
  rename Frag.In _ s.heap => X
  have F2 := hide_fr F W
  have N2 := hide_news F hW
  clear F N X T
  k_extra "my words"
  all_goals ((try dsimp only); refine retM (s := s) (Q := Q) hQ (by assumption) (by assumption) (.head _) ?_ ?_ ?_ ⟨_, _, rfl, ?_, ?_⟩)
  all_goals first | omega | exact fm_lo (by decide) | exact fm_hi (by decide) | exact fm_lo hs | exact fm_hi hs

end WellLS
section L2S
theorem reg13 : True := by
  k_with "call ref" => ((k_here; (fail_if_success (fail_if_success (with_reducible show wpAny _ _ (call (Value.ref 28) _) _ _ _))); k_dflt (refine' Spec.useI (led_spec _ _) ?kR ?kF ?kN ?kX ?kT ?kp ?kk ?_; k_extra "my std"; (case kk => decide); k_whole); intro t' h' tk' F' N'; (try k_sweep)))
  k_with "call ref" => ((k_here; (fail_if_success (fail_if_success (with_reducible show wpAny _ _ (call (Value.ref 35) _) _ _ _))); k_dflt (refine' Spec.useI (with_sign_spec _ _) ?kR ?kF ?kN ?kX ?kT ?kp ?kk ?_; k_extra "my std"; (case kk => decide); k_whole); intro t' h' tk' F' N'; (try k_sweep)))
  k_with "call ref" => ((k_here; (fail_if_success (fail_if_success (with_reducible show wpAny _ _ (call (Value.ref 56) _) _ _ _))); k_dflt (refine' Spec.useI (address_of_spec _ _) ?kR ?kF ?kN ?kX ?kT ?kp ?kk ?_; k_extra "my std"; (case kk => decide); k_whole); intro t' h' tk' F' N'; (try k_sweep)))
  k_with "call ref" => ((k_here; (fail_if_success (fail_if_success (with_reducible show wpAny _ _ (call (Value.ref 618) _) _ _ _))); k_dflt (refine' Spec.useI (law_weight_spec _ _) ?kR ?kF ?kN ?kX ?kT ?kp ?kk ?_; k_extra "my std"; (case kk => decide); k_whole); intro t' h' tk' F' N'; (try k_sweep)))
  k_with "call ref" => ((k_here; (fail_if_success (fail_if_success (with_reducible show wpAny _ _ (call (Value.ref 632) _) _ _ _))); k_dflt (refine' Spec.useT (law_parted_spec _ _ _ _ ?s0 ?s1 ?s2) ?kR ?kF ?kN ?kX ?kT ?kp ?kk ?_; k_extra "my std"; (case s0 => k_extra "my arg"); (case s1 => k_extra "my arg"); (case s2 => k_extra "my arg"); (case kk => decide); k_whole); intro l' t' u' h' tk' ns' F' N' l1; (try (dsimp only [AllNe] at l1)); (try k_sweep)))
  k_with "call ref" => ((k_here; (fail_if_success (fail_if_success (with_reducible show wpAny _ _ (call (Value.ref 564) _) _ _ _))); k_dflt (refine' Spec.useI (law_WORD_spec) ?kR ?kF ?kN ?kX ?kT ?kp ?kk ?_; k_extra "my std"; (case kk => decide); k_whole); intro t' h' tk' F' N'; (try k_sweep)))
  k_with "call ref" => ((k_here; (fail_if_success (fail_if_success (with_reducible show wpAny _ _ (call (Value.ref 639) _) _ _ _))); k_dflt (refine' Spec.useI (law_left_spec _ _ _ _ ?s0 ?s1 ?s2) ?kR ?kF ?kN ?kX ?kT ?kp ?kk ?_; k_extra "my std"; (case s0 => k_extra "my arg"); (case s1 => k_extra "my arg"); (case s2 => k_extra "my arg"); (case kk => decide); k_whole); intro t' h' tk' F' N'; (try k_sweep)))
  k_with "call ref" => ((k_here; (fail_if_success (fail_if_success (with_reducible show wpAny _ _ (call (Value.ref 646) _) _ _ _))); k_dflt (refine' Spec.useI (law_led_spec _ _ ?s0) ?kR ?kF ?kN ?kX ?kT ?kp ?kk ?_; k_extra "my std"; (case s0 => k_extra "my arg"); (case kk => decide); k_whole); intro t' h' tk' F' N'; (try k_sweep)))
  k_with "my bits" => (first | exact two255 | exact Bits.small (by with_reducible assumption) _)
  k_with "my arg" => (first | with_reducible assumption | k_extra "my om" | exact bits_zsub (by k_extra "my arg") | exact bits_edv (by k_extra "my arg") (by k_extra "my om") (by k_extra "my om") | exact bits_emd (by k_extra "my arg") (by k_extra "my om") (by k_extra "my om") | decide | assumption)
  k_with "my pre" => (first | exact ⟨IsL.ofOld (by k_asm) (by with_reducible assumption), by with_reducible assumption⟩ | (refine ⟨?_, ?_⟩ <;> first | (k_extra "my list") | (k_extra "my len")))
  trivial
noncomputable def hexes (v : Int) (ds : List Int) : Int := ds.foldl (fun v d => 16 * v + d) v
structure HxInv (b₀ : Int) (ds : List Int) (b : Int) : Prop where
  b0 : 0 ≤ b
  eq : b₀ = hexes b ds.reverse
  lo : b * 16 ^ ds.length ≤ b₀
  dg : ∀ d ∈ ds, 0 ≤ d ∧ d < 16
  len : ds.length ≤ 300
theorem HxInv.start {b : Int} (h : 0 ≤ b) : HxInv b [] b := ⟨h, rfl, by simp, fun _ h => (nomatch h), by simp⟩
theorem HxInv.step {b₀ b : Int} {ds : List Int} (h : HxInv b₀ ds b) (hb : Builtin.Int.intBits b₀ ≤ 1024) (hp : b > 0) : HxInv b₀ (ds ++ [b.fmod 16]) (b.fdiv 16) := by
  have e1 : b.fmod 16 = b % 16 := Int.fmod_eq_emod_of_nonneg _ (by decide)
  have e2 : b.fdiv 16 = b / 16 := Int.fdiv_eq_ediv_of_nonneg _ (by decide)
  rw [e1, e2]
  have hpow : (0 : Int) < 16 ^ ds.length := Int.pow_pos (by decide)
  refine ⟨by (first | lia | omega), ?_, ?_, ?_, ?_⟩
  · rw [List.reverse_append, h.eq]
    show hexes b ds.reverse = hexes (16 * (b / 16) + b % 16) ds.reverse
    congr 1; (first | lia | omega)
  · rw [List.length_append, List.length_singleton, Int.pow_succ, Int.mul_comm _ (16 : Int), ← Int.mul_assoc]
    have : b / 16 * 16 * 16 ^ ds.length ≤ b * 16 ^ ds.length := Int.mul_le_mul_of_nonneg_right (by (first | lia | omega)) (by (first | lia | omega))
    exact Int.le_trans this h.lo
  · intro d hd
    rcases List.mem_append.mp hd with hd | hd
    · exact h.dg d hd
    · rw [List.mem_singleton.mp hd]; (first | lia | omega)
  · rw [List.length_append, List.length_singleton]
    have h1 : (2 : Int) ^ (4 * ds.length) ≤ b₀ := by
      have e : (2 : Int) ^ (4 * ds.length) = 16 ^ ds.length := by rw [Int.pow_mul]; rfl
      rw [e]
      have : 1 * (16 : Int) ^ ds.length ≤ b * 16 ^ ds.length := Int.mul_le_mul_of_nonneg_right (by (first | lia | omega)) (by (first | lia | omega))
      have := h.lo
      (first | lia | omega)
    have := pow_lt_of_bits hb h1
    (first | lia | omega)
structure PwI (a : Int) (ds : List Int) (i : Nat) (found : Int) : Prop where
  v0 : 0 ≤ hexes 0 (ds.take i)
  eq : found = a ^ (hexes 0 (ds.take i)).toNat % WORD
theorem PwI.start {a : Int} {ds : List Int} : PwI a ds 0 1 := ⟨by simp [hexes], by simp [hexes]; decide⟩
theorem PwI.fb {a found : Int} {ds : List Int} {i : Nat} (h : PwI a ds i found) : Builtin.Int.intBits found ≤ 256 := by
  rw [h.eq, ← fmodW]; exact intBits_mod _
theorem PwI.step {a found d : Int} {ds : List Int} {i : Nat} (h : PwI a ds i found) (hi : ds[i]? = some d) (h0 : 0 ≤ d) : PwI a ds (i + 1) ((found ^ Int.toNat 16 * a ^ d.toNat).fmod WORD) := by
  have e : hexes 0 (ds.take (i + 1)) = 16 * hexes 0 (ds.take i) + d := by
    have : ds.take (i + 1) = ds.take i ++ [d] := by simp [List.take_add_one, hi]
    rw [this]; simp [hexes]
  have hv := h.v0
  refine ⟨by rw [e]; (first | lia | omega), ?_⟩
  rw [e, h.eq, fmodW]
  have e2 : (16 * hexes 0 (ds.take i) + d).toNat = (hexes 0 (ds.take i)).toNat * 16 + d.toNat := by (first | lia | omega)
  have e3 : Int.toNat 16 = 16 := rfl
  rw [e2, e3, Int.pow_add, Int.pow_mul, Int.mul_emod, mod_pow, ← Int.mul_emod]
theorem pow_room {a d : Int} (ha : Builtin.Int.intBits a ≤ 256) (h : d < 16) : (Builtin.Int.intBits a : Int) * d ≤ 2 ^ 27 := by
  have h1 : (Builtin.Int.intBits a : Int) * d ≤ Builtin.Int.intBits a * 16 := Int.mul_le_mul_of_nonneg_left (by (first | lia | omega)) (by (first | lia | omega))
  (first | lia | omega)
theorem pow_bits {a d : Int} (ha : Builtin.Int.intBits a ≤ 256) (h : d < 16) : Builtin.Int.intBits (a ^ d.toNat) ≤ 4097 := by
  refine Nat.le_trans (intBits_pow_le ha _) ?_
  have : d.toNat ≤ 16 := by (first | lia | omega)
  (first | lia | omega)
theorem pow_bits16 {a : Int} (ha : Builtin.Int.intBits a ≤ 256) : Builtin.Int.intBits (a ^ Int.toNat 16) ≤ 4097 := intBits_pow_le ha _
theorem reg14 : True := by
  k_with "my bits" => (first | with_reducible exact pow_bits (by with_reducible assumption) (by with_reducible assumption) | with_reducible exact pow_bits16 (by with_reducible assumption))
  k_with "binaryOp Pow int int" => ((k_dflt (refine' pow_int ?k1 ?k2 ?_; (case k1 => first | assumption | decide | k_extra "my om"); (case k2 => first | exact pow_room (by with_reducible assumption) (by with_reducible assumption) | k_extra "my om"))))
  trivial
theorem law_power_spec {w : World} (a b : Int) (t u : Tok) (ha : Builtin.Int.intBits a ≤ 256) (hb0 : 0 ≤ b) (hb : Builtin.Int.intBits b ≤ 1024) : Spec w 2 653 [.int a t, .int b u] (fun _ => True) (PInt (a ^ b.toNat % WORD)) := by
  intro s Q E dp un gd outer hR hX hP hQ
  ktr_call [(Str.ofString "a", .int a t), (Str.ofString "b", .int b u)] hR
  k_extra "my steps"
  (rename Fr _ _ _ _ => lF'); (rename News _ _ _ _ => lN')
  refine' whileK (σ := List Value × List Int × Nat × Int × Tok) ((fun dl tk c => ([(Str.ofString "a", .int a t), (Str.ofString "b", .int c.2.2.2.1 c.2.2.2.2), (Str.ofString "digits", .ref dl), (Str.ofString "found", .int 1 tk)], [(dl, listOf (List.toArray c.1) c.2.2.1)])) _ _) (fun c => IntsAre c.1 c.2.1 ∧ HxInv b c.2.1 c.2.2.2.1) (fun c => c.2.2.2.1.toNat) ([], [], 0, b, u) lF' lN' ?kk ?kl ?ki ?_ ?hE
  case kk => k_extra "my rows"
  case kl => k_extra "my led"
  case ki => exact ⟨.nil, HxInv.start hb0⟩
  case hE => passes_own
  clear lF' lN'
  rintro ⟨vs, ds, nn, r, tr⟩ u' h' tk' ⟨hi, hinv⟩ F' N'
  dsimp only at F' N' hi hinv
  k_fold
  have hlen := hinv.len
  have hvl : vs.length ≤ 300 := by rw [hi.length]; exact hlen
  k_extra "my steps"
  · (rename Fr _ _ _ _ => F9); (rename News _ _ _ _ => N9)
    have hp := (by assumption : r > 0)
    simp only [List.push_toArray] at N9
    refine' WEnd.intro F9 N9 (_, ds ++ [r.fmod 16], _, r.fdiv 16, _) ?g1 ?g2 ?g3 ?g4
    case g1 => k_extra "my rows"
    case g2 => k_extra "my led"
    case g3 => exact ⟨hi.append (.cons _ _ .nil), hinv.step hb hp⟩
    case g4 =>
      have e2 : r.fdiv 16 = r / 16 := Int.fdiv_eq_ediv_of_nonneg _ (by decide)
      show (r.fdiv 16).toNat < r.toNat
      rw [e2]
      (first | lia | omega)
  · (rename Fr _ _ _ _ => F9); (rename News _ _ _ _ => N9); (rename IntsAre _ ds.reverse => hI')
    have hp := (by assumption : ¬ r > 0)
    have hr : r = 0 := by have := hinv.b0; (first | lia | omega)
    refine' forL (σ := Int × Tok) ((fun D ws c => ([(Str.ofString "a", .int a t), (Str.ofString "found", .int c.1 c.2)], [(D, listOf (List.toArray ws) 0)])) _ _) (fun i c => PwI a ds.reverse i c.1) (1, _) rfl ?hl ?hm hI' F9 N9 ?hk ?hld ?h0 ?_ ?_
    case hl => k_mem
    case hm => intro c; k_memK
    case hk => k_extra "my rows"
    case hld => k_extra "my led"
    case h0 => exact PwI.start
    · rintro ⟨o, t1⟩ i z t3 u' h' tk' own hz hoff hc F' N'
      dsimp only at F' N' hc hoff
      clear F9 N9
      k_fold
      have hfb := hc.fb
      obtain ⟨hz0, hz1⟩ := hinv.dg z (List.mem_reverse.mp (List.mem_of_getElem? hz))
      k_extra "my steps"
      · (rename Fr _ _ _ _ => F9); (rename News _ _ _ _ => N9)
        refine' FEnd.intro F9 N9 (_, _) ?g1 ?g2 ?g3 rfl ?g5
        case g1 => k_extra "my rows"
        case g2 => k_extra "my led"
        case g3 => k_extra "my led"
        case g5 => exact hc.step hz hz0
    · rintro ⟨o, t1⟩ u' h' tk' hc F' N'
      dsimp only at F' N' hc
      clear F9 N9
      try k_fold
      k_extra "my steps"
      refine retI (s := s) (Q := Q) hQ (by assumption) ?_
      have e := hc.eq
      rw [List.take_length] at e
      rw [e]
      have e2 := hinv.eq
      rw [hr] at e2
      rw [e2]

end L2S
section L3S
theorem law_bits_specN {w : World} (n : Int) (t : Tok) : Spec w 1 611 [.int n t] (fun _ => True) (PList (bitsN n 256)) := by
  have e : (List.foldl (fun p _ => (Int.fdiv p.fst 2, p.snd ++ [Int.fmod p.fst 2])) (n, []) (rangeKs 0 (256 - 0 : Int).toNat)).snd = bitsN n 256 := by
    rw [fold_bits, rangeKs_length]
    rfl
  rw [← e]
  exact law_bits_spec n t
theorem law_signed_specN {w : World} (n : Int) (l : Addr) (h0 : 0 ≤ n) (h1 : n < WORD) : Spec w 2 625 [.ref l] (fun h => IsL h l (bitsN n 256) ∧ (bitsN n 256).length = 256) (PInt (withSign n)) :=
  signed_bits h0 h1 ▸ law_signed_spec l (bitsN n 256) (bitsN_Bits n 256)
theorem len_bits (n : Int) : (bitsN n 256).length = 256 := bitsN_length n 256
theorem absI_bits {x : Int} (h0 : 0 ≤ x) (h1 : x < WORD) : Builtin.Int.intBits (0 - withSign x) ≤ 1024 ∧ Builtin.Int.intBits (withSign x) ≤ 1024 := by
  rw [intBits_le_iff, intBits_le_iff]
  have : (2 ^ 256 : Nat) = WORD.toNat := by decide +kernel
  have h2 : (2 ^ 256 : Nat) ≤ 2 ^ 1024 := Nat.pow_le_pow_right (by decide) (by decide)
  unfold withSign
  simp only [WORD, HALF] at *
  generalize (2:Nat) ^ 1024 = z at *
  split <;> (first | lia | omega)
theorem reg16 : True := by
  k_with "call ref" => ((k_here; (fail_if_success (fail_if_success (with_reducible show wpAny _ _ (call (Value.ref 611) _) _ _ _))); k_dflt (refine' Spec.useL (law_bits_specN _ _) ?kR ?kF ?kN ?kX ?kT ?kp ?kk ?_; k_extra "my std"; (case kk => decide); k_whole); intro l' vs' nn' h' tk' ns' F' N' i' e' l1; (try (dsimp only [AllNe] at l1)); (try k_sweep)))
  k_with "call ref" => ((k_here; (fail_if_success (fail_if_success (with_reducible show wpAny _ _ (call (Value.ref 625) _) _ _ _))); k_dflt (refine' Spec.useI (law_signed_specN _ _ ?s0 ?s1) ?kR ?kF ?kN ?kX ?kT ?kp ?kk ?_; k_extra "my std"; (case s0 => k_extra "my arg"); (case s1 => k_extra "my arg"); (case kk => decide); k_whole); intro t' h' tk' F' N'; (try k_sweep)))
  trivial
noncomputable def absW (x : Int) : Int := if x < 0 then 0 - x else x
noncomputable def sgnParts (a b : Int) : Int × Int := if withSign b = 0 then (0, 0) else
  ((if (decide (withSign a < 0)) != (decide (withSign b < 0)) then 0 - absW (withSign a) / absW (withSign b) else absW (withSign a) / absW (withSign b)) % WORD, (if withSign a < 0 then 0 - absW (withSign a) % absW (withSign b) else absW (withSign a) % absW (withSign b)) % WORD)
theorem sp_0 {a b : Int} (h : withSign b = 0) : sgnParts a b = (0, 0) := by unfold sgnParts; rw [if_pos h]
theorem sp_pp {a b : Int} (h : withSign b ≠ 0) (ha : ¬ withSign a < 0) (hb : ¬ withSign b < 0) : sgnParts a b = (withSign a / withSign b % WORD, withSign a % withSign b % WORD) := by
  unfold sgnParts absW; rw [if_neg h, decide_eq_false ha, decide_eq_false hb, if_neg ha, if_neg ha, if_neg hb]; rfl
theorem sp_np {a b : Int} (h : withSign b ≠ 0) (ha : withSign a < 0) (hb : ¬ withSign b < 0) : sgnParts a b = ((0 - (0 - withSign a) / withSign b) % WORD, (0 - (0 - withSign a) % withSign b) % WORD) := by
  unfold sgnParts absW; rw [if_neg h, decide_eq_true ha, decide_eq_false hb, if_pos ha, if_pos ha, if_neg hb]; rfl
theorem sp_pn {a b : Int} (h : withSign b ≠ 0) (ha : ¬ withSign a < 0) (hb : withSign b < 0) : sgnParts a b = ((0 - withSign a / (0 - withSign b)) % WORD, withSign a % (0 - withSign b) % WORD) := by
  unfold sgnParts absW; rw [if_neg h, decide_eq_false ha, decide_eq_true hb, if_neg ha, if_neg ha, if_pos hb]; rfl
theorem sp_nn {a b : Int} (h : withSign b ≠ 0) (ha : withSign a < 0) (hb : withSign b < 0) : sgnParts a b = ((0 - withSign a) / (0 - withSign b) % WORD, (0 - (0 - withSign a) % (0 - withSign b)) % WORD) := by
  unfold sgnParts absW; rw [if_neg h, decide_eq_true ha, decide_eq_true hb, if_pos ha, if_pos ha, if_pos hb]; rfl
theorem sp_01 {a b : Int} (h : withSign b = 0) : 0 = (sgnParts a b).1 := by rw [sp_0 h]
theorem sp_02 {a b : Int} (h : withSign b = 0) : 0 = (sgnParts a b).2 := by rw [sp_0 h]
theorem sp_pp1 {a b : Int} (h : withSign b ≠ 0) (ha : ¬ withSign a < 0) (hb : ¬ withSign b < 0) : withSign a / withSign b % WORD = (sgnParts a b).1 := by rw [sp_pp h ha hb]
theorem sp_pp2 {a b : Int} (h : withSign b ≠ 0) (ha : ¬ withSign a < 0) (hb : ¬ withSign b < 0) : withSign a % withSign b % WORD = (sgnParts a b).2 := by rw [sp_pp h ha hb]
theorem sp_np1 {a b : Int} (h : withSign b ≠ 0) (ha : withSign a < 0) (hb : ¬ withSign b < 0) : (0 - (0 - withSign a) / withSign b) % WORD = (sgnParts a b).1 := by rw [sp_np h ha hb]
theorem sp_np2 {a b : Int} (h : withSign b ≠ 0) (ha : withSign a < 0) (hb : ¬ withSign b < 0) : (0 - (0 - withSign a) % withSign b) % WORD = (sgnParts a b).2 := by rw [sp_np h ha hb]
theorem sp_pn1 {a b : Int} (h : withSign b ≠ 0) (ha : ¬ withSign a < 0) (hb : withSign b < 0) : (0 - withSign a / (0 - withSign b)) % WORD = (sgnParts a b).1 := by rw [sp_pn h ha hb]
theorem sp_pn2 {a b : Int} (h : withSign b ≠ 0) (ha : ¬ withSign a < 0) (hb : withSign b < 0) : withSign a % (0 - withSign b) % WORD = (sgnParts a b).2 := by rw [sp_pn h ha hb]
theorem sp_nn1 {a b : Int} (h : withSign b ≠ 0) (ha : withSign a < 0) (hb : withSign b < 0) : (0 - withSign a) / (0 - withSign b) % WORD = (sgnParts a b).1 := by rw [sp_nn h ha hb]
theorem sp_nn2 {a b : Int} (h : withSign b ≠ 0) (ha : withSign a < 0) (hb : withSign b < 0) : (0 - (0 - withSign a) % (0 - withSign b)) % WORD = (sgnParts a b).2 := by rw [sp_nn h ha hb]
theorem sp_no1 {P : Prop} {p q : Prop} [Decidable p] [Decidable q] (h : (decide p != decide q) = true) (hp : ¬ p) (hq : ¬ q) : P := by rw [decide_eq_false hp, decide_eq_false hq] at h; cases h
theorem sp_no2 {P : Prop} {p q : Prop} [Decidable p] [Decidable q] (h : (decide p != decide q) = true) (hp : p) (hq : q) : P := by rw [decide_eq_true hp, decide_eq_true hq] at h; cases h
theorem sp_no3 {P : Prop} {p q : Prop} [Decidable p] [Decidable q] (h : (decide p != decide q) = false) (hp : p) (hq : ¬ q) : P := by rw [decide_eq_true hp, decide_eq_false hq] at h; cases h
theorem sp_no4 {P : Prop} {p q : Prop} [Decidable p] [Decidable q] (h : (decide p != decide q) = false) (hp : ¬ p) (hq : q) : P := by rw [decide_eq_false hp, decide_eq_true hq] at h; cases h
theorem law_signed_parts_spec {w : World} (a b : Int) (t u : Tok) (ha0 : 0 ≤ a) (ha1 : a < WORD) (hb0 : 0 ≤ b) (hb1 : b < WORD) : Spec w 3 660 [.int a t, .int b u] (fun _ => True) (PTup2 (sgnParts a b).1 (sgnParts a b).2) := by
  intro s Q E dp un gd outer hR hX hP hQ
  have la := len_bits a
  have lb := len_bits b
  obtain ⟨za, ya⟩ := absI_bits ha0 ha1
  obtain ⟨zb, yb⟩ := absI_bits hb0 hb1
  ktr_call [(Str.ofString "a", .int a t), (Str.ofString "b", .int b u)] hR
  k_extra "my words"
  all_goals first | (k_extra "my back") | (dsimp only; k_extra "my back") | (trace_state; w_report)
  all_goals first | (rw [sp_0 (by assumption)]; done) | (rw [sp_pp (by assumption) (by assumption) (by assumption)]; done) | (rw [sp_np (by assumption) (by assumption) (by assumption)]; done) | (rw [sp_pn (by assumption) (by assumption) (by assumption)]; done) | (rw [sp_nn (by assumption) (by assumption) (by assumption)]; done) | exact sp_no1 (by assumption) (by assumption) (by assumption) | exact sp_no2 (by assumption) (by assumption) (by assumption) | exact sp_no3 (by assumption) (by assumption) (by assumption) | exact sp_no4 (by assumption) (by assumption) (by assumption)

end L3S
section L4S
theorem and2 {a0 a1 G : Prop} (h : a0 ∧ a1) (k : a0 → a1 → G) : G := k h.1 h.2
theorem and4 {a0 a1 a2 a3 G : Prop} (h : a0 ∧ a1 ∧ a2 ∧ a3) (k : a0 → a1 → a2 → a3 → G) : G := k h.1 h.2.1 h.2.2.1 h.2.2.2
theorem and5 {a0 a1 a2 a3 a4 G : Prop} (h : a0 ∧ a1 ∧ a2 ∧ a3 ∧ a4) (k : a0 → a1 → a2 → a3 → a4 → G) : G := k h.1 h.2.1 h.2.2.1 h.2.2.2.1 h.2.2.2.2
theorem and6 {a0 a1 a2 a3 a4 a5 G : Prop} (h : a0 ∧ a1 ∧ a2 ∧ a3 ∧ a4 ∧ a5) (k : a0 → a1 → a2 → a3 → a4 → a5 → G) : G := k h.1 h.2.1 h.2.2.1 h.2.2.2.1 h.2.2.2.2.1 h.2.2.2.2.2
theorem and8 {a0 a1 a2 a3 a4 a5 a6 a7 G : Prop} (h : a0 ∧ a1 ∧ a2 ∧ a3 ∧ a4 ∧ a5 ∧ a6 ∧ a7) (k : a0 → a1 → a2 → a3 → a4 → a5 → a6 → a7 → G) : G := k h.1 h.2.1 h.2.2.1 h.2.2.2.1 h.2.2.2.2.1 h.2.2.2.2.2.1 h.2.2.2.2.2.2.1 h.2.2.2.2.2.2.2
theorem and9 {a0 a1 a2 a3 a4 a5 a6 a7 a8 G : Prop} (h : a0 ∧ a1 ∧ a2 ∧ a3 ∧ a4 ∧ a5 ∧ a6 ∧ a7 ∧ a8) (k : a0 → a1 → a2 → a3 → a4 → a5 → a6 → a7 → a8 → G) : G := k h.1 h.2.1 h.2.2.1 h.2.2.2.1 h.2.2.2.2.1 h.2.2.2.2.2.1 h.2.2.2.2.2.2.1 h.2.2.2.2.2.2.2.1 h.2.2.2.2.2.2.2.2
theorem and10 {a0 a1 a2 a3 a4 a5 a6 a7 a8 a9 G : Prop} (h : a0 ∧ a1 ∧ a2 ∧ a3 ∧ a4 ∧ a5 ∧ a6 ∧ a7 ∧ a8 ∧ a9) (k : a0 → a1 → a2 → a3 → a4 → a5 → a6 → a7 → a8 → a9 → G) : G := k h.1 h.2.1 h.2.2.1 h.2.2.2.1 h.2.2.2.2.1 h.2.2.2.2.2.1 h.2.2.2.2.2.2.1 h.2.2.2.2.2.2.2.1 h.2.2.2.2.2.2.2.2.1 h.2.2.2.2.2.2.2.2.2
theorem and11 {a0 a1 a2 a3 a4 a5 a6 a7 a8 a9 a10 G : Prop} (h : a0 ∧ a1 ∧ a2 ∧ a3 ∧ a4 ∧ a5 ∧ a6 ∧ a7 ∧ a8 ∧ a9 ∧ a10) (k : a0 → a1 → a2 → a3 → a4 → a5 → a6 → a7 → a8 → a9 → a10 → G) : G := k h.1 h.2.1 h.2.2.1 h.2.2.2.1 h.2.2.2.2.1 h.2.2.2.2.2.1 h.2.2.2.2.2.2.1 h.2.2.2.2.2.2.2.1 h.2.2.2.2.2.2.2.2.1 h.2.2.2.2.2.2.2.2.2.1 h.2.2.2.2.2.2.2.2.2.2
theorem and12 {a0 a1 a2 a3 a4 a5 a6 a7 a8 a9 a10 a11 G : Prop} (h : a0 ∧ a1 ∧ a2 ∧ a3 ∧ a4 ∧ a5 ∧ a6 ∧ a7 ∧ a8 ∧ a9 ∧ a10 ∧ a11) (k : a0 → a1 → a2 → a3 → a4 → a5 → a6 → a7 → a8 → a9 → a10 → a11 → G) : G := k h.1 h.2.1 h.2.2.1 h.2.2.2.1 h.2.2.2.2.1 h.2.2.2.2.2.1 h.2.2.2.2.2.2.1 h.2.2.2.2.2.2.2.1 h.2.2.2.2.2.2.2.2.1 h.2.2.2.2.2.2.2.2.2.1 h.2.2.2.2.2.2.2.2.2.2.1 h.2.2.2.2.2.2.2.2.2.2.2
theorem and13 {a0 a1 a2 a3 a4 a5 a6 a7 a8 a9 a10 a11 a12 G : Prop} (h : a0 ∧ a1 ∧ a2 ∧ a3 ∧ a4 ∧ a5 ∧ a6 ∧ a7 ∧ a8 ∧ a9 ∧ a10 ∧ a11 ∧ a12) (k : a0 → a1 → a2 → a3 → a4 → a5 → a6 → a7 → a8 → a9 → a10 → a11 → a12 → G) : G := k h.1 h.2.1 h.2.2.1 h.2.2.2.1 h.2.2.2.2.1 h.2.2.2.2.2.1 h.2.2.2.2.2.2.1 h.2.2.2.2.2.2.2.1 h.2.2.2.2.2.2.2.2.1 h.2.2.2.2.2.2.2.2.2.1 h.2.2.2.2.2.2.2.2.2.2.1 h.2.2.2.2.2.2.2.2.2.2.2.1 h.2.2.2.2.2.2.2.2.2.2.2.2
theorem and16 {a0 a1 a2 a3 a4 a5 a6 a7 a8 a9 a10 a11 a12 a13 a14 a15 G : Prop} (h : a0 ∧ a1 ∧ a2 ∧ a3 ∧ a4 ∧ a5 ∧ a6 ∧ a7 ∧ a8 ∧ a9 ∧ a10 ∧ a11 ∧ a12 ∧ a13 ∧ a14 ∧ a15) (k : a0 → a1 → a2 → a3 → a4 → a5 → a6 → a7 → a8 → a9 → a10 → a11 → a12 → a13 → a14 → a15 → G) : G := k h.1 h.2.1 h.2.2.1 h.2.2.2.1 h.2.2.2.2.1 h.2.2.2.2.2.1 h.2.2.2.2.2.2.1 h.2.2.2.2.2.2.2.1 h.2.2.2.2.2.2.2.2.1 h.2.2.2.2.2.2.2.2.2.1 h.2.2.2.2.2.2.2.2.2.2.1 h.2.2.2.2.2.2.2.2.2.2.2.1 h.2.2.2.2.2.2.2.2.2.2.2.2.1 h.2.2.2.2.2.2.2.2.2.2.2.2.2.1 h.2.2.2.2.2.2.2.2.2.2.2.2.2.2.1 h.2.2.2.2.2.2.2.2.2.2.2.2.2.2.2
section
variable {σ : Type} {prog : Program} {w : World} {A : Around} {E : Value → Shared → Prop} {Q : Flow → Shared → Prop} {s : Shared} {env : Env} {g : Heap} {L : Addr}
noncomputable def SPost (g : Heap) (L : Addr) (s : Shared) (St : σ → List (Str × Value) × List (Addr × Obj)) (I : σ → Prop) (f : Flow) (s₂ : Shared) : Prop :=
  f = .next ∧ ∃ (c : σ) (h' : Heap) (tk : Nat) (m' : Str → Option Value) (news' : List (Addr × Obj)), s₂ = { s with heap := h', toks := tk } ∧ Fr g L h' m' ∧ News g L h' news' ∧ (∀ p ∈ (St c).1, m' p.1 = some p.2) ∧ (∀ p ∈ (St c).2, p ∈ news') ∧ I c
theorem SPost.intro {St : σ → List (Str × Value) × List (Addr × Obj)} {I : σ → Prop} {h' : Heap} {tk : Nat} {m' : Str → Option Value} {news' : List (Addr × Obj)} (F : Fr g L h' m') (N : News g L h' news') (c : σ)
    (h1 : ∀ p ∈ (St c).1, m' p.1 = some p.2) (h2 : ∀ p ∈ (St c).2, p ∈ news') (h3 : I c) : SPost g L s St I .next { s with heap := h', toks := tk } := ⟨rfl, c, h', tk, m', news', rfl, F, N, h1, h2, h3⟩
theorem seqS {st : Stmt} {rest : List Stmt} {m₀ : Str → Option Value} (_F : Fr g L s.heap m₀) (St : σ → List (Str × Value) × List (Addr × Obj)) (I : σ → Prop) (h : wpAny (model prog w) A (exec st env) (SPost g L s St I) E s)
    (hr : ∀ c u h tk, I c → Fr g L h (kB u (St c).1) → News g L h (St c).2 → wpAny (model prog w) A (execs rest env) Q E { s with heap := h, toks := tk }) : wpAny (model prog w) A (execs (st :: rest) env) Q E s := by
  refine wpAny_execs_cons (wpAny_mono h (fun f s' hp => ?_) fun _ _ z => z)
  obtain ⟨rfl, c, h', tk, m', news', rfl, F, N, h1, h2, h3⟩ := hp
  exact hr c m' h' tk h3 (fr_names h1 F) fun p hp => N p (h2 p hp)
end
theorem nameFN {P : Prop} {g h : Heap} {L : Addr} {m : Str → Option Value} {news : List (Addr × Obj)} (F : Fr g L h m) (N : News g L h news) (k : let mm := m; let nx := news; Fr g L h mm → News g L h nx → P) : P := k F N
theorem nameL {P : Prop} (l : List (Addr × Obj)) (k : let x := l; P) : P := k
theorem ints_rep (v : Int) (t : Tok) : ∀ n, IntsAre (List.replicate n (Value.int v t)) (List.replicate n v)
  | 0 => .nil
  | n + 1 => by rw [List.replicate_succ, List.replicate_succ]; exact .cons _ _ (ints_rep v t n)
theorem flat_rep (v : Value) : ∀ n, (List.replicate n [v]).flatten = List.replicate n v
  | 0 => rfl
  | n + 1 => by rw [List.replicate_succ, List.replicate_succ, List.flatten_cons, flat_rep v n]; rfl
theorem mul_rep {w : World} {A : Around} {E : Value → Shared → Prop} {s : Shared} {g : Heap} {L : Addr} {m : Str → Option Value} {news : List (Addr × Obj)} {l : Addr} {v x : Int} {t u : Tok} {Q : Value → Shared → Prop} (F : Fr g L s.heap m) (N : News g L s.heap news)
    (hl : s.heap.IsList l [Value.int v t].toArray) (h0 : 0 ≤ x) (hx : x ≤ 256)
    (h : ∀ D vs h', Fr g L h' m → News g L h' ((D, listOf (List.toArray vs) 0) :: news) → IntsAre vs (List.replicate x.toNat v) → vs.length = x.toNat → AllNe D news → Q (.ref D) { s with heap := h' }) :
    wpAny (model PR w) A (binaryOp .Mult (.ref l) (.int x u)) Q E s :=
  KMa.mul F N hl (by (first | lia | omega)) (by (first | lia | omega)) (by simp; (first | lia | omega)) (flat_rep _ _) fun D h' F' N' lt => h D _ h' F' N' (ints_rep _ _ _) (by simp) (allNe_of fun p hp => Nat.ne_of_lt (lt p hp))
theorem reg18 : True := by
  k_with "binaryOp Mult ref int" => ((k_here; k_dflt (refine' mul_rep ?F ?N ?l ?lo ?hi ?_; (case F => k_asm); (case N => k_asm); (case l => is_list); (case lo => k_extra "my len"); (case hi => k_extra "my len"); k_whole); intro D' vs' h' F' N' i' e' l1; (try (dsimp only [AllNe] at l1)); (try k_sweep)))
  trivial
theorem add_two {w : World} {A : Around} {E : Value → Shared → Prop} {s : Shared} {g : Heap} {L : Addr} {m : Str → Option Value} {news : List (Addr × Obj)} {l b : Addr} {vs ws : List Value} {ns ms : List Int} {Q : Value → Shared → Prop} (F : Fr g L s.heap m) (N : News g L s.heap news)
    (hl : s.heap.IsList l vs.toArray) (hb : s.heap.IsList b ws.toArray) (hi : IntsAre vs ns) (hj : IntsAre ws ms) (hz : ns.length + ms.length ≤ 16777216)
    (h : ∀ D us h', Fr g L h' m → News g L h' ((D, listOf (List.toArray us) 0) :: news) → IntsAre us (ns ++ ms) → AllNe D news → Q (.ref D) { s with heap := h' }) :
    wpAny (model PR w) A (binaryOp .Add (.ref l) (.ref b)) Q E s :=
  add_lists_ints F N hl hb hi hj (fun h' F' N' i => h _ _ h' F' N' i (allNe_of fun p hp => Nat.ne_of_lt (Heap.lt_size (N p hp).1))) (by rw [sizeLine_eq]; exact hz)
theorem reg19 : True := by
  k_with "binaryOp Add ref ref" => ((k_here; k_dflt (refine' add_two ?F ?N ?l ?b ?i ?j ?z ?_; (case F => k_asm); (case N => k_asm); (case l => is_list); (case b => is_list); (case i => l_ints); (case j => l_ints); (case z => k_extra "my len"); k_whole); intro D' us' h' F' N' i' l1; (try (dsimp only [AllNe] at l1)); (try k_sweep)))
  trivial
noncomputable def heldB (p : Int) (ns : List Int) : List Int := if p < 32 then ns.take (8 * p + 8).toNat else ns
noncomputable def extB (h : List Int) : Int := wt (h ++ List.replicate (256 - (h.length : Int)).toNat (h.getD (-1 + (h.length : Int)).toNat 0))
theorem ext_lo {p : Int} {ns : List Int} (h : p < 32) : extB (ns.take (8 * p + 8).toNat) = extB (heldB p ns) := by unfold heldB; rw [if_pos h]
theorem ext_hi {p : Int} {ns : List Int} (h : ¬ p < 32) : extB ns = extB (heldB p ns) := by unfold heldB; rw [if_neg h]
theorem law_moved_spec {w : World} (p : Int) (t : Tok) (l : Addr) (ns : List Int) (hp : 0 ≤ p) (hb : Bits ns) : Spec w 2 672 [.int p t, .ref l] (fun h => IsL h l ns ∧ ns.length = 256) (PTup3 (wt ((List.replicate (if p < 256 then p else 256).toNat 0 ++ ns).take 256)) (wt (ns.drop (if p < 256 then p else 256).toNat)) (wt (ns.drop (if p < 256 then p else 256).toNat ++ List.replicate (if p < 256 then p else 256).toNat (ns.getD 255 0)))) := by
  intro s Q E dp un gd outer hR hX hP hQ
  obtain ⟨hP, hlen⟩ := hP
  obtain ⟨vs, hl, hi⟩ := hP.list
  have hlen2 : vs.length = 256 := by rw [hi.length]; exact hlen
  obtain ⟨c, hc, hc0, hc1⟩ : ∃ c : Int, (if p < 256 then p else 256) = c ∧ 0 ≤ c ∧ c ≤ 256 := ⟨_, rfl, by split <;> omega, by split <;> omega⟩
  rw [hc] at hQ
  ktr_call [(Str.ofString "by", .int p t), (Str.ofString "bits", .ref l)] hR
  rename Fr _ _ _ _ => F0
  refine' seqS (σ := Tok) F0 (fun t2 => ([("bits", .ref l), ("far", .int c t2)], [])) (fun _ => True) ?st0 ?_
  case st0 =>
    by_cases h : p < 256
    · rw [if_pos h] at hc
      subst hc
      k_extra "my words"
      (rename Fr _ _ _ _ => F9)
      (rename News _ _ _ _ => N9)
      refine' SPost.intro F9 N9 _ ?g1 ?g2 trivial
      case g1 => k_extra "my rows"
      case g2 => k_extra "my led"
    · rw [if_neg h] at hc
      subst hc
      k_extra "my words"
      (rename Fr _ _ _ _ => F9)
      (rename News _ _ _ _ => N9)
      refine' SPost.intro F9 N9 _ ?g1 ?g2 trivial
      case g1 => k_extra "my rows"
      case g2 => k_extra "my led"
  clear F0 hc
  rename News _ _ _ _ => N0
  clear N0
  rintro t2 u h tk - F1 N1
  dsimp only at F1 N1
  show wpAny _ _ _ _ _ { s with heap := h, toks := tk }
  refine nameFN F1 N1 ?_
  clear F1 N1
  intro mm nx F1 N1
  k_extra "my words"
  all_goals first | (k_extra "my back") | (dsimp only; k_extra "my back") | (trace_state; w_report)
  all_goals first | rfl | (k_extra "my fin") | trace_state
theorem law_widened_spec {w : World} (p : Int) (t : Tok) (l : Addr) (ns : List Int) (hp : 0 ≤ p) (hb : Bits ns) : Spec w 2 679 [.int p t, .ref l] (fun h => IsL h l ns ∧ ns.length = 256) (PInt (extB (heldB p ns))) := by
  intro s Q E dp un gd outer hR hX hP hQ
  obtain ⟨hP, hlen⟩ := hP
  obtain ⟨vs, hl, hi⟩ := hP.list
  have hlen2 : vs.length = 256 := by rw [hi.length]; exact hlen
  ktr_call [(Str.ofString "place", .int p t), (Str.ofString "bits", .ref l)] hR
  k_extra "my words"
  all_goals first | (k_extra "my back") | (dsimp only; k_extra "my back") | (trace_state; w_report)
  all_goals first | rfl | (k_extra "my fin") | exact ext_lo (by omega) | exact ext_hi (by omega) | trace_state

end L4S
section L5S
noncomputable def digits (ns : List Int) : List Int := (List.range 32).map fun i => wt ((ns.drop (248 - 8 * i)).take 8)
theorem law_digits_spec {w : World} (l : Addr) (ns : List Int) : Spec w 2 665 [.ref l] (fun h => IsL h l ns ∧ ns.length = 256) (PList (digits ns)) := by
  intro s Q E dp un gd outer hR hX hP hQ
  obtain ⟨hP, hlen⟩ := hP
  obtain ⟨vs, hl, hIs⟩ := hP.list
  have hlen2 : vs.length = 256 := by rw [hIs.length]; exact hlen
  refine' enterC (binds := [(Str.ofString "bits", .ref l)]) hR hX ?ho ?hB ?hS ?hcd ?hb ?hk ?hn ?_ ?h1 ?h2 ?h3
  case ho => k_is
  case hB => exact (rfl : List.cons _ _ = List.cons _ _)
  case hS => exact (rfl : Scope.mk _ _ _ _ _ = Scope.mk _ _ _ _ _)
  case hcd => k_is
  case hb => exact BindsTo.of_eq rfl
  case hk => rfl
  case hn => decide +kernel
  case h1 => rfl
  case h2 => rfl
  case h3 => rfl
  intro L' h₁ tk cells mean mg mb F N Y X T R' env₉ A₉
  (try (conv in (occs := *) (stB _) => all_goals whnf)); (try (conv in (occs := *) (stS _) => all_goals whnf))
  (have hY := CellsAre.one Y; obtain ⟨o1, hE1, d1⟩ := hY; subst hE1; clear Y)
  (try dsimp only)
  k_extra "my comp"
  rw [eval_ListComp]
  refine' wpAny_comprehension_free (use := none) rfl ?cs ?cc rfl (by decide) ?_
  case cs => intro _; rfl
  case cc => with_unfolding_all rfl
  dsimp only [firstIter]
  k_extra "my comp"
  refine' compRange (n := 32) (fun i => wt ((ns.drop (248 - 8 * i)).take 8)) (by assumption) (by assumption) rfl (by assumption) (by decide) (by decide +kernel) (by decide +kernel) (by decide) rfl rfl ?el ?dn
  case el =>
    intro g i t C D ys ep own h tk m' E' hkeep hnews hi hm F' N' hD
    have hc1 := hnews _ (.head _)
    have X' := X.keeps hkeep
    have T' := T.keeps hkeep
    have hl' := isList_keeps hl hkeep
    clear X T hl hkeep hnews
    have d2 : o1.data = .cell (some (.ref l)) := d1
    clear d1
    dsimp only at hc1
    k_extra "my comp"
    refine CPost.intro (by assumption) (by assumption) (fun p9 h9 => by k_extra "my own") ?_
    have e1 : (248 + (i : Int) * -8).toNat = 248 - 8 * i := by (first | lia | omega)
    have e2 : (248 + (i : Int) * -8 + 8).toNat = 256 - 8 * i := by (first | lia | omega)
    have e3 : min (256 - 8 * i) ns.length - (248 - 8 * i) = 8 := by rw [hlen]; (first | lia | omega)
    rw [e1, e2, e3]
  case dn =>
    intro D h' tk ys ep F' N' ne' hI'
    refine retL (s := s) (Q := Q) hQ (by assumption) (by assumption) (.head _) hI' rfl

end L5S
section WoS
section
variable {s : Shared} {Q : Value → Shared → Prop} {W C L : Addr} {h : Heap} {m : Str → Option Value} {tk : Nat} {news : List (Addr × Obj)} {i r x lo hi : Int} {t u tx : Tok} {nn : Nat}
theorem retMI (hQ : ∀ v h' tk, Ext (hideAll s.heap [W]) h' → WellAt h' W C → PIn lo hi (hideAll s.heap [W]) h' v → Q v { s with heap := h', toks := tk }) (F : Fr (hideAll s.heap [W]) L h m) (N : News (hideAll s.heap [W]) L h news) (hm : (W, wellO C i r t u nn) ∈ news)
    (hi0 : 0 ≤ i) (hr : 0 ≤ r) (hr2 : r < 65537) (h1 : lo ≤ x) (h2 : x < hi) : Q (.int x tx) { s with heap := h, toks := tk } := retM hQ F N hm hi0 hr hr2 ⟨x, tx, rfl, h1, h2⟩
end
section
variable {g h h0 : Heap} {L W C : Addr} {m : Str → Option Value} {cs : List Int}
theorem isL_hide (hC : IsL (hideAll h0 [W]) C cs) (F : Fr (hideAll h0 [W]) L h m) : IsL (hideAll h [W]) C cs := by
  obtain ⟨vs, n, e, hi⟩ := hC
  have hne : C ∉ [W] := fun hm => by rw [hideAll_none [W] hm] at e; cases e
  exact ⟨vs, n, hideAll_get _ (F.keep _ _ e) hne, hi⟩
end
theorem reg22 : True := by
  k_with "my mend" => ((refine' retMI (by assumption) ?F ?N ?m ?i0 ?r0 ?r1 ?_ ?_; (case F => assumption); (case N => assumption); (case m => k_mem); (case i0 => assumption); (case r0 => assumption); (case r1 => assumption)))
  k_with "my cells" => (first | assumption | exact isL_hide (by assumption) (by assumption))
  k_with "my mcall" => ((k_extra "my ctx"; (case km => exact .head _); (case ki => first | assumption | k_extra "my om"); (case kr => assumption); (case kr2 => assumption); (case kc => k_extra "my cells"); (case kk => decide); (case kre => exact List.forall_mem_nil _); (case kne => trivial)))
  k_with "call ref" => ((k_here; (fail_if_success (fail_if_success (with_reducible show wpAny _ _ (call (Value.ref 571) _) _ _ _))); k_dflt (refine' MSpec.use (rest := []) (law_draw_spec _ _ _ _ _ ?s0 ?s1) ?kR ?kF ?kN ?kX ?kT ?km ?ki ?kr ?kr2 ?kc ?kk ?kre ?kne ?_; (case kF => k_asm); (case kN => k_asm); (case km => k_mem); (case kR => assumption); (case kX => k_asm); (case kT => k_asm); (case ki => first | assumption | k_extra "my om"); (case kr => assumption); (case kr2 => assumption); (case kc => k_extra "my cells"); (case s0 => first | assumption | decide | k_extra "my om"); (case s1 => assumption); (case kk => decide); (case kre => exact List.forall_mem_nil _); (case kne => trivial); k_whole); intro v' h' tk' i' r' t' u' n' F' N' a1 a2 a3 hP'; refine nameP ?_; intro GG; obtain ⟨x', tx', e', b1, b2⟩ := hP'; unfold GG; clear GG; subst e'; (try k_sweep)))
  trivial
theorem ownNe {own : List (Addr × Obj)} {W : Addr} {r : List Addr} (h : OwnOff own (W :: r)) : AllNe W own := allNe_of fun p hp => h.ne (.head _) p hp
theorem reg23 : True := by
  k_with "call ref" => ((k_here; (fail_if_success (fail_if_success (with_reducible show wpAny _ _ (call (Value.ref 571) _) _ _ _))); k_dflt (refine' MSpec.use (law_draw_spec _ _ _ _ _ ?s0 ?s1) ?kR ?kF ?kN ?kX ?kT ?km ?ki ?kr ?kr2 ?kc ?kk ?kre ?kne ?_; (case kF => k_asm); (case kN => k_asm); (case km => exact .head _); (case kne => exact ownNe (by assumption)); (case kR => assumption); (case kX => k_asm); (case kT => k_asm); (case ki => first | assumption | k_extra "my om"); (case kr => assumption); (case kr2 => assumption); (case kc => k_extra "my cells"); (case s0 => first | assumption | decide | k_extra "my om"); (case s1 => assumption); (case kk => decide); (case kre => exact fun _ h9 => .tail _ h9); k_whole); intro v' h' tk' i' r' t' u' n' F' N' a1 a2 a3 hP'; refine nameP ?_; intro GG; obtain ⟨x', tx', e', b1, b2⟩ := hP'; unfold GG; clear GG; subst e'; (try k_sweep)))
  trivial
theorem wl1 {x : Int} (h : x < 300) : x < WORD := Int.lt_trans h (by decide)
theorem wl2 {x : Int} (h : x < 300) : 0 ≤ WORD - 1 - x := by unfold WORD; (first | lia | omega)
theorem wl2' {x : Int} (h : 0 ≤ x) : WORD - 1 - x < WORD := by unfold WORD; (first | lia | omega)
theorem wl3 {x : Int} : 0 ≤ 2 ^ Int.toNat 255 + x.fmod 5 - 2 := by
  have e : (2 : Int) ^ Int.toNat 255 = HALF := by decide +kernel
  have := @fm_lo x 5 (by decide)
  rw [e]; unfold HALF; (first | lia | omega)
theorem wl3' {x : Int} : 2 ^ Int.toNat 255 + x.fmod 5 - 2 < WORD := by
  have e : (2 : Int) ^ Int.toNat 255 = HALF := by decide +kernel
  have := @fm_hi x 5 (by decide)
  rw [e]; unfold HALF WORD; (first | lia | omega)
theorem wl4e : (WORD - 1).fdiv 255 = 454086624460063511464984254936031011189294057512315937409637584344757371137 := by decide +kernel
theorem wl4 {x : Int} : 0 ≤ x.fmod 256 * (WORD - 1).fdiv 255 := by
  have := @fm_lo x 256 (by decide)
  rw [wl4e]; (first | lia | omega)
theorem wl4' {x : Int} : x.fmod 256 * (WORD - 1).fdiv 255 < WORD := by
  have := @fm_hi x 256 (by decide)
  rw [wl4e]; unfold WORD; (first | lia | omega)
structure SmI (k : Nat) (v i r : Int) : Prop where
  v0 : 0 ≤ v
  v1 : v < 65536 ^ k
  i0 : 0 ≤ i
  r0 : 0 ≤ r
  r1 : r < 65537
theorem SmI.step {k : Nat} {v i r x i' r' : Int} (h : SmI k v i r) (x0 : 0 ≤ x) (x1 : x < 65536) (a : 0 ≤ i') (b : 0 ≤ r') (c : r' < 65537) : SmI (k + 1) (v * 65536 + x) i' r' := by
  have := h.v0; have := h.v1
  refine ⟨by (first | lia | omega), ?_, a, b, c⟩
  rw [Int.pow_succ]; (first | lia | omega)
theorem pow_w {k : Nat} (h : k ≤ 16) : (65536 : Int) ^ k ≤ WORD := by
  have e : ∀ k, k < 17 → (65536 : Int) ^ k ≤ WORD := by decide +kernel
  exact e k (by (first | lia | omega))
theorem SmI.bits {k : Nat} {v i r : Int} (h : SmI k v i r) (hk : k ≤ 16) : Builtin.Int.intBits v ≤ 256 := by
  have e : v.fmod WORD = v := by rw [fmodW]; exact Int.emod_eq_of_lt h.v0 (Int.lt_of_lt_of_le h.v1 (pow_w hk))
  rw [← e]; exact intBits_mod _
theorem SmI.hi {k : Nat} {v i r : Int} (h : SmI k v i r) (hk : k ≤ 16) : v < WORD := Int.lt_of_lt_of_le h.v1 (pow_w hk)
noncomputable abbrev wSt (W C : Addr) (c : Int × Tok × Int × Int × Tok × Tok × Nat) : List (Str × Value) × List (Addr × Obj) :=
  ([(Str.ofString "well", .ref W), (Str.ofString "sum_here", .int c.1 c.2.1)], [(W, wellO C c.2.2.1 c.2.2.2.1 c.2.2.2.2.1 c.2.2.2.2.2.1 c.2.2.2.2.2.2)])
theorem wordEnd {g h : Heap} {L W C : Addr} {m : Str → Option Value} {s : Shared} {tk : Nat} {own : List (Addr × Obj)} {k : Nat} {i r v : Int} {t u vt : Tok} {nn : Nat} (F : Fr g L h m) (N : News g L h ((W, wellO C i r t u nn) :: own))
    (h1 : m (Str.ofString "well") = some (.ref W)) (h2 : m (Str.ofString "sum_here") = some (.int v vt)) (hs : SmI (k + 1) v i r) :
    FEnd g L s (wSt W C) (fun k c => SmI k c.1 c.2.2.1 c.2.2.2.1) k own [W] { s with heap := h, toks := tk } :=
  FEnd.intro F N (v, vt, i, r, t, u, nn) (List.forall_mem_cons.mpr ⟨h1, List.forall_mem_cons.mpr ⟨h2, List.forall_mem_nil _⟩⟩) (List.forall_mem_cons.mpr ⟨List.Mem.head _, List.forall_mem_nil _⟩) (fun _ h9 => List.Mem.tail _ h9) rfl hs
theorem law_word_spec {w : World} (W C : Addr) (cs : List Int) (hn : cs.length ≤ 60) : MSpec w 2 578 [.ref W] W C cs (PIn 0 WORD) := by
  rintro s Q E dp un gd outer hR hX ⟨i, r, t1, t2, n, hW, hi, hr, hr2⟩ hC hQ
  have hX0 : Wd w s.heap := hX.keeps (hide_ext _ _)
  obtain ⟨X2, mean2, mg2, mb2, T2⟩ := hX
  ktr_call [(Str.ofString "well", .ref W)] hR
  rename Fr _ _ _ _ => F
  rename News _ _ _ _ => N
  rename Top _ _ _ _ _ _ => T
  rename Frag.In _ s.heap => X
  have F2 := hide_fr F W
  have N2 := hide_news F hW
  clear F N X T
  k_extra "my words"
  all_goals first | (k_extra "my mend") | (dsimp only; k_extra "my mend") | skip
  all_goals first | assumption | exact wl1 (by assumption) | exact wl2 (by assumption) | exact wl2' (by assumption) | exact wl3 | exact wl3' | exact wl4 | exact wl4' | exact fm_lo (by decide) | exact fm_hi (by decide) | skip
  · have hx1 : True := trivial
    clear hX0
    (rename Fr _ _ _ _ => F9); (rename News _ _ _ _ => N9)
    refine' forR (n := 8) (σ := Int × Tok × Int × Int × Tok × Tok × Nat) (wSt W C) (fun k c => SmI k c.1 c.2.2.1 c.2.2.2.1) (0, _, _, _, _, _, _) rfl (by assumption) (by decide) (by decide) F9 N9 ?hk ?hld ?h0 ?_ ?_
    case hk => k_extra "my rows"
    case hld => k_extra "my led"
    case h0 => exact ⟨Int.le_refl 0, by show (0 : Int) < 65536 ^ 0; decide, by assumption, by assumption, by assumption⟩
    · rintro ⟨v, vt, i1, r1, tt, uu, nn⟩ k t3 u' h' tk' own hk hoff hc F' N'
      dsimp only [List.map, List.cons_append, List.nil_append] at F' N' hc hoff
      clear F9 N9
      k_fold
      have hfb := hc.bits (by (first | lia | omega))
      have c1 := hc.i0
      have c2 := hc.r0
      have c3 := hc.r1
      k_extra "my steps"
      (rename Fr _ _ _ _ => F9); (rename News _ _ _ _ => N9)
      refine' wordEnd F9 N9 ?g1 ?g2 ?g5
      case g1 => with_unfolding_all rfl
      case g2 => with_unfolding_all rfl
      case g5 => exact hc.step (by assumption) (by assumption) (by assumption) (by assumption) (by assumption)
    · rintro ⟨v, vt, i1, r1, tt, uu, nn⟩ u' h' tk' hc F' N'
      dsimp only at F' N' hc
      clear F9 N9
      try k_fold
      k_extra "my steps"
      have c1 := hc.i0
      have c2 := hc.r0
      have c3 := hc.r1
      (try dsimp only)
      k_extra "my mend"
      · exact hc.v0
      · exact hc.hi (by decide)
  · have hx1 : True := trivial
    clear hX0
    (rename Fr _ _ _ _ => F9); (rename News _ _ _ _ => N9)
    refine' forR (n := 16) (σ := Int × Tok × Int × Int × Tok × Tok × Nat) (wSt W C) (fun k c => SmI k c.1 c.2.2.1 c.2.2.2.1) (0, _, _, _, _, _, _) rfl (by assumption) (by decide) (by decide) F9 N9 ?hk ?hld ?h0 ?_ ?_
    case hk => k_extra "my rows"
    case hld => k_extra "my led"
    case h0 => exact ⟨Int.le_refl 0, by show (0 : Int) < 65536 ^ 0; decide, by assumption, by assumption, by assumption⟩
    · rintro ⟨v, vt, i1, r1, tt, uu, nn⟩ k t3 u' h' tk' own hk hoff hc F' N'
      dsimp only [List.map, List.cons_append, List.nil_append] at F' N' hc hoff
      clear F9 N9
      k_fold
      have hfb := hc.bits (by (first | lia | omega))
      have c1 := hc.i0
      have c2 := hc.r0
      have c3 := hc.r1
      k_extra "my steps"
      (rename Fr _ _ _ _ => F9); (rename News _ _ _ _ => N9)
      refine' wordEnd F9 N9 ?g1 ?g2 ?g5
      case g1 => with_unfolding_all rfl
      case g2 => with_unfolding_all rfl
      case g5 => exact hc.step (by assumption) (by assumption) (by assumption) (by assumption) (by assumption)
    · rintro ⟨v, vt, i1, r1, tt, uu, nn⟩ u' h' tk' hc F' N'
      dsimp only at F' N' hc
      clear F9 N9
      try k_fold
      k_extra "my steps"
      have c1 := hc.i0
      have c2 := hc.r0
      have c3 := hc.r1
      (try dsimp only)
      k_extra "my mend"
      · exact hc.v0
      · exact hc.hi (by decide)

end WoS
section SecS
theorem reg24 : True := by
  k_with "my marg" => (first | assumption | decide | k_extra "my om")
  trivial
theorem sl1 {x : Int} (h : x < 7) : x < WORD := Int.lt_trans h (by decide)
theorem sl2 {x : Int} (h : x < 7) : 0 ≤ WORD - 1 - x := by unfold WORD; (first | lia | omega)
theorem sl3 {x : Int} : 0 ≤ x.fmod WORD ∧ x.fmod WORD < WORD := ⟨fm_lo (by decide), fm_hi (by decide)⟩
theorem sl5 {x y : Int} (h : 0 ≤ x) (h2 : 0 ≤ y) : 0 ≤ x.fdiv (y + 2) := by rw [Int.fdiv_eq_ediv_of_nonneg _ (by (first | lia | omega))]; exact Int.ediv_nonneg h (by (first | lia | omega))
theorem sl5' {x y : Int} (h : 0 ≤ x) (h1 : x < WORD) (h2 : 0 ≤ y) : x.fdiv (y + 2) < WORD := by rw [Int.fdiv_eq_ediv_of_nonneg _ (by (first | lia | omega))]; exact Int.lt_of_le_of_lt (Int.ediv_le_self _ h) h1
theorem bits_of_lt {x : Int} (h0 : 0 ≤ x) (h1 : x < WORD) : Builtin.Int.intBits x ≤ 256 := by
  have e : x.fmod WORD = x := by rw [fmodW]; exact Int.emod_eq_of_lt h0 h1
  rw [← e]; exact intBits_mod _
theorem reg25 : True := by
  k_with "call ref" => ((k_here; (fail_if_success (fail_if_success (with_reducible show wpAny _ _ (call (Value.ref 578) _) _ _ _))); k_dflt (refine' MSpec.use (rest := []) (law_word_spec _ _ _ ?sn) ?kR ?kF ?kN ?kX ?kT ?km ?ki ?kr ?kr2 ?kc ?kk ?kre ?kne ?_; (case kF => k_asm); (case kN => k_asm); (case km => k_mem); (case kR => assumption); (case kX => k_asm); (case kT => k_asm); (case ki => first | assumption | k_extra "my om"); (case kr => assumption); (case kr2 => assumption); (case kc => k_extra "my cells"); (case sn => assumption); (case kk => decide); (case kre => exact List.forall_mem_nil _); (case kne => trivial); k_whole); intro v' h' tk' i' r' t' u' n' F' N' a1 a2 a3 hP'; refine nameP ?_; intro GG; obtain ⟨x', tx', e', b1, b2⟩ := hP'; unfold GG; clear GG; subst e'; (try k_sweep)))
  trivial
theorem law_second_spec {w : World} (W C : Addr) (cs : List Int) (x : Int) (t : Tok) (hx0 : 0 ≤ x) (hx1 : x < WORD) (hn : cs.length ≤ 60) : MSpec w 3 585 [.ref W, .int x t] W C cs (PIn 0 WORD) := by
  rintro s Q E dp un gd outer hR hX ⟨i, r, t1, t2, n, hW, hi, hr, hr2⟩ hC hQ
  have hX0 : Wd w s.heap := hX.keeps (hide_ext _ _)
  obtain ⟨X2, mean2, mg2, mb2, T2⟩ := hX
  ktr_call [(Str.ofString "well", .ref W), (Str.ofString "first", .int x t)] hR
  rename Fr _ _ _ _ => F
  rename News _ _ _ _ => N
  rename Top _ _ _ _ _ _ => T
  rename Frag.In _ s.heap => X
  have F2 := hide_fr F W
  have N2 := hide_news F hW
  clear F N X T
  k_extra "my words"
  all_goals first | (k_extra "my mend") | (dsimp only; k_extra "my mend") | (trace_state; w_report)
  all_goals first | assumption | exact sl1 (by assumption) | exact sl2 (by assumption) | exact wl2' (by assumption) | exact sl3.1 | exact sl3.2 | exact sl5 (by assumption) (by assumption) | exact sl5' (by assumption) (by assumption) (by assumption) | trace_state
theorem law_count_spec {w : World} (W C : Addr) (cs : List Int) (x : Int) (t : Tok) (hx0 : 0 < x) (hx1 : x ≤ 300) (hn : cs.length ≤ 60) : MSpec w 3 592 [.ref W, .int x t] W C cs (PIn 0 WORD) := by
  rintro s Q E dp un gd outer hR hX ⟨i, r, t1, t2, n, hW, hi, hr, hr2⟩ hC hQ
  have hX0 : Wd w s.heap := hX.keeps (hide_ext _ _)
  obtain ⟨X2, mean2, mg2, mb2, T2⟩ := hX
  ktr_call [(Str.ofString "well", .ref W), (Str.ofString "size", .int x t)] hR
  rename Fr _ _ _ _ => F
  rename News _ _ _ _ => N
  rename Top _ _ _ _ _ _ => T
  rename Frag.In _ s.heap => X
  have F2 := hide_fr F W
  have N2 := hide_news F hW
  clear F N X T
  k_extra "my words"
  all_goals first | (k_extra "my mend") | (dsimp only; k_extra "my mend") | (trace_state; w_report)
  all_goals first | assumption | (unfold WORD; (first | lia | omega)) | trace_state

end SecS
section WholeS
section
variable {w : World} {s : Shared} {Q E : Value → Shared → Prop} {k n dp un : Nat} {gd : Option (List Code)} {outer : List Env} {f : Addr} {args : List Value} {W C : Addr} {cs : List Int}
  {g : Heap} {L : Addr} {m : Str → Option Value} {p : Addr × Obj} {mean : ExcName → Option Value} {mg mb : Str → Option Value} {i r : Int} {t u : Tok} {nn : Nat}
theorem MSpec.use1 {Post : Heap → Heap → Value → Prop} (S : MSpec w k f args W C cs Post) (R : Room n dp un) (F : Fr g L s.heap m) (N : News g L s.heap [p, (W, wellO C i r t u nn)]) (X : (hd.heap_39 w.params).In g) (T : Top VW LS mean mg mb g)
    (hi : 0 ≤ i) (hr : 0 ≤ r) (hr2 : r < 65537) (hc : IsL (hideAll s.heap [W]) C cs) (hk : k ≤ n) (hne : @Ne Nat p.1 W)
    (h : ∀ v h' tk i' r' t' u' nn', Fr g L h' m → News g L h' [(W, wellO C i' r' t' u' nn'), p] → 0 ≤ i' → 0 ≤ r' → r' < 65537 → Post (hideAll s.heap [W]) h' v → Q v { s with heap := h', toks := tk }) : wpAny (model PR w) (mkA dp un gd outer) (call (.ref f) args) Q E s :=
  MSpec.use (rest := [p]) S R F N X T (.tail _ (.head _)) hi hr hr2 hc hk (List.forall_mem_cons.mpr ⟨List.Mem.head _, List.forall_mem_nil _⟩) ⟨hne, trivial⟩ h
end
theorem bits_W : Builtin.Int.intBits WORD ≤ 257 := by decide +kernel
theorem reg28 : True := by
  k_with "my bits" => (with_reducible exact bits_W)
  trivial
theorem getD_all {P : Int → Prop} {l : List Int} {d : Int} (hd : P d) (h : ∀ e ∈ l, P e) (i : Nat) : P (l.getD i d) := by
  rw [List.getD_eq_getElem?_getD]
  cases e : l[i]? with
  | none => exact hd
  | some b => exact h b (List.mem_of_getElem? e)
noncomputable abbrev PBits (n : Nat) : Heap → Heap → Value → Prop := fun _ _ v => ∃ x t, v = .int x t ∧ Builtin.Int.intBits x ≤ n
theorem reg29 : True := by
  k_with "my ne" => (first | exact Nat.ne_of_gt (by assumption) | exact Nat.ne_of_lt (by assumption) | k_ne)
  k_with "call ref" => ((k_here; (fail_if_success (fail_if_success (with_reducible show wpAny _ _ (call (Value.ref 571) _) _ _ _))); k_dflt (refine' MSpec.use1 (law_draw_spec _ _ _ _ _ ?s0 ?sn) ?kR ?kF ?kN ?kX ?kT ?ki ?kr ?kr2 ?kc ?kk ?kne ?_; (case kF => k_asm); (case kN => assumption); (case kR => assumption); (case kX => k_asm); (case kT => k_asm); (case ki => first | assumption | k_extra "my om"); (case kr => assumption); (case kr2 => assumption); (case kc => k_extra "my cells"); (case s0 => k_extra "my marg"); (case sn => assumption); (case kk => decide); (case kne => k_extra "my ne"); k_whole); intro v' h' tk' i' r' t' u' n' F' N' a1 a2 a3 hP'; refine nameP ?_; intro GG; obtain ⟨x', tx', e', b1, b2⟩ := hP'; unfold GG; clear GG; subst e'; (try k_sweep)))
  k_with "my mendB" => ((refine' retM (by assumption) ?F ?N ?m ?i0 ?r0 ?r1 ?_; (case F => assumption); (case N => assumption); (case m => k_mem); (case i0 => assumption); (case r0 => assumption); (case r1 => assumption); refine ⟨_, _, rfl, ?_⟩))
  trivial
theorem nat_le_bits {z : Int} (h : z.natAbs < 2 ^ 1024) : Builtin.Int.intBits z ≤ 1024 := (intBits_le_iff).mpr h
theorem sum_bits {x y : Int} {A B C : Nat} (hx : x.natAbs < A) (hy : y.natAbs < B) (h : A + B ≤ C) : (x + y).natAbs < C :=
  Nat.lt_of_le_of_lt (Int.natAbs_add_le x y) (Nat.lt_of_lt_of_le (Nat.add_lt_add hx hy) h)
theorem dif_bits {x y : Int} {A B C : Nat} (hx : x.natAbs < A) (hy : y.natAbs < B) (h : A + B ≤ C) : (x - y).natAbs < C :=
  Nat.lt_of_le_of_lt (Int.natAbs_sub_le x y) (Nat.lt_of_lt_of_le (Nat.add_lt_add hx hy) h)
theorem mul_bits {x y : Int} {A B C : Nat} (hx : x.natAbs < A) (hy : y.natAbs < B) (h : A * B ≤ C) : (x * y).natAbs < C := by
  rw [Int.natAbs_mul]; exact Nat.lt_of_lt_of_le (Nat.mul_lt_mul'' hx hy) h
theorem whole_bits {x y : Int} (hx : Builtin.Int.intBits x ≤ 256) (hy : Builtin.Int.intBits y ≤ 256) (i : Nat) : Builtin.Int.intBits ([x + y, x - y, x * y, 0 - x * y - 1, 0 - WORD * y, (x + 1) * WORD - 1 - y].getD i 0) ≤ 1024 := by
  have hx := (intBits_le_iff).mp hx
  have hy := (intBits_le_iff).mp hy
  have one : (1 : Int).natAbs < 2 := by decide
  have nul : (0 : Int).natAbs < 2 := by decide
  have wrd : WORD.natAbs < 2 ^ 257 := by decide +kernel
  have mul := mul_bits hx hy (Nat.le_refl _)
  have hw := mul_bits wrd hy (Nat.le_refl _)
  have hs := mul_bits (sum_bits hx one (Nat.le_refl _)) wrd (Nat.le_refl _)
  refine getD_all (P := fun z => Builtin.Int.intBits z ≤ 1024) (by decide +kernel) (List.forall_mem_cons.mpr ⟨?_, List.forall_mem_cons.mpr ⟨?_, List.forall_mem_cons.mpr ⟨?_, List.forall_mem_cons.mpr ⟨?_, List.forall_mem_cons.mpr ⟨?_, List.forall_mem_cons.mpr ⟨?_, List.forall_mem_nil _⟩⟩⟩⟩⟩⟩) i
  · exact nat_le_bits (sum_bits hx hy (by decide +kernel))
  · exact nat_le_bits (dif_bits hx hy (by decide +kernel))
  · exact nat_le_bits (Nat.lt_of_lt_of_le mul (by decide +kernel))
  · exact nat_le_bits (dif_bits (dif_bits nul mul (Nat.le_refl _)) one (by decide +kernel))
  · exact nat_le_bits (dif_bits nul hw (by decide +kernel))
  · exact nat_le_bits (dif_bits (dif_bits hs one (Nat.le_refl _)) hy (by decide +kernel))
theorem law_whole_spec {w : World} (W C : Addr) (cs : List Int) (x y : Int) (t t' : Tok) (hx0 : 0 ≤ x) (hx1 : x < WORD) (hy0 : 0 ≤ y) (hy1 : y < WORD) (hn : cs.length ≤ 60) : MSpec w 3 599 [.ref W, .int x t, .int y t'] W C cs (PBits 1024) := by
  rintro s Q E dp un gd outer hR hX ⟨i, r, t1, t2, n, hW, hi, hr, hr2⟩ hC hQ
  have hX0 : Wd w s.heap := hX.keeps (hide_ext _ _)
  obtain ⟨X2, mean2, mg2, mb2, T2⟩ := hX
  have bx := bits_of_lt hx0 hx1
  have hy := bits_of_lt hy0 hy1
  ktr_call [(Str.ofString "well", .ref W), (Str.ofString "a", .int x t), (Str.ofString "b", .int y t')] hR
  rename Fr _ _ _ _ => F
  rename News _ _ _ _ => N
  rename Top _ _ _ _ _ _ => T
  rename Frag.In _ s.heap => X
  have F2 := hide_fr F W
  have N2 := hide_news F hW
  clear F N X T
  k_extra "my words"
  all_goals first | (k_extra "my mendB") | (dsimp only; k_extra "my mendB") | (trace_state; w_report)
  all_goals first | assumption | exact whole_bits (by assumption) (by assumption) _ | trace_state

end WholeS
section OctS
section
variable {w : World} {s : Shared} {Q E : Value → Shared → Prop} {k n dp un : Nat} {gd : Option (List Code)} {outer : List Env} {f : Addr} {args : List Value} {W C : Addr} {cs : List Int}
  {g : Heap} {L : Addr} {m : Str → Option Value} {rest : List (Addr × Obj)} {mean : ExcName → Option Value} {mg mb : Str → Option Value} {i r : Int} {t u : Tok} {nn : Nat}
theorem MSpec.useH {Post : Heap → Heap → Value → Prop} (S : MSpec w k f args W C cs Post) (R : Room n dp un) (F : Fr g L s.heap m) (N : News g L s.heap ((W, wellO C i r t u nn) :: rest)) (X : (hd.heap_39 w.params).In g) (T : Top VW LS mean mg mb g)
    (hi : 0 ≤ i) (hr : 0 ≤ r) (hr2 : r < 65537) (hc : IsL (hideAll s.heap [W]) C cs) (hk : k ≤ n) (hne : AllNe W rest)
    (h : ∀ v h' tk i' r' t' u' nn', Fr g L h' m → News g L h' ((W, wellO C i' r' t' u' nn') :: rest) → 0 ≤ i' → 0 ≤ r' → r' < 65537 → Post (hideAll s.heap [W]) h' v → Q v { s with heap := h', toks := tk }) : wpAny (model PR w) (mkA dp un gd outer) (call (.ref f) args) Q E s :=
  MSpec.use (rest := rest) S R F N X T (.head _) hi hr hr2 hc hk (fun _ h9 => .tail _ h9) hne h
end
section
variable {h h' : Heap} {W L : Addr} {m : Str → Option Value} {o : Obj} {cells : List (Addr × Obj)}
theorem hide_newsC (F : Fr h L h' m) (N : News h L h' cells) (e : h.get? W = some o) : News (hideAll h [W]) L h' ((W, o) :: cells) := by
  intro p hp
  rcases List.mem_cons.mp hp with rfl | hp
  · exact hide_news F e _ (.head _)
  · have q := N p hp
    refine ⟨q.1, q.2.1, ?_⟩
    cases z : (hideAll h [W]).get? p.1 with
    | none => rfl
    | some o' => have := of_hideAll _ z; rw [q.2.2] at this; cases this
theorem cells_ne (N : News h L h' cells) (e : h.get? W = some o) : AllNe W cells := allNe_of fun p hp q => by
  have := (N p hp).2.2
  rw [q, e] at this; cases this
end
theorem reg31 : True := by
  k_with "call ref" => ((k_here; (fail_if_success (fail_if_success (with_reducible show wpAny _ _ (call (Value.ref 571) _) _ _ _))); k_dflt (refine' MSpec.useH (law_draw_spec _ _ _ _ _ ?s0 ?sn) ?kR ?kF ?kN ?kX ?kT ?ki ?kr ?kr2 ?kc ?kk ?kne ?_; (case kF => k_asm); (case kN => assumption); (case kR => assumption); (case kX => k_asm); (case kT => k_asm); (case ki => first | assumption | k_extra "my om"); (case kr => assumption); (case kr2 => assumption); (case kc => k_extra "my cells"); (case s0 => k_extra "my marg"); (case sn => assumption); (case kk => decide); (case kne => k_extra "my ne"); k_whole); intro v' h' tk' i' r' t' u' n' F' N' a1 a2 a3 hP'; refine nameP ?_; intro GG; obtain ⟨x', tx', e', b1, b2⟩ := hP'; unfold GG; clear GG; subst e'; (try k_sweep)))
  k_with "my ne" => (first | assumption | exact ⟨by assumption, by assumption, trivial⟩)
  trivial
noncomputable abbrev POct : Heap → Heap → Value → Prop := fun _ _ v => ∃ b t ks, v = .bytes b t ∧ KBw.bInts b = ks ∧ ks.length ≤ 40
theorem law_octets_spec {w : World} (W C : Addr) (cs : List Int) (hn : cs.length ≤ 60) : MSpec w 2 604 [.ref W] W C cs POct := by
  rintro s Q E dp un gd outer hR hX ⟨i, r, t1, t2, n, hW, hi, hr, hr2⟩ hC hQ
  have hX0 : Wd w s.heap := hX.keeps (hide_ext _ _)
  obtain ⟨X2, mean2, mg2, mb2, T2⟩ := hX
  refine' enterC (binds := [(Str.ofString "well", .ref W)]) hR hX0 ?ho ?hB ?hS ?hcd ?hb ?hk ?hn ?_ ?h1 ?h2 ?h3
  case ho => k_is
  case hB => exact (rfl : List.cons _ _ = List.cons _ _)
  case hS => exact (rfl : Scope.mk _ _ _ _ _ = Scope.mk _ _ _ _ _)
  case hcd => k_is
  case hb => exact BindsTo.of_eq rfl
  case hk => rfl
  case hn => decide +kernel
  case h1 => rfl
  case h2 => rfl
  case h3 => rfl
  intro L' h₁ tk cells mean mg mb F N Y X T R' env₉ A₉
  (try (conv in (occs := *) (stB _) => all_goals whnf)); (try (conv in (occs := *) (stS _) => all_goals whnf))
  have F2 := hide_fr F W
  have N2 := hide_newsC F N hW
  have ne := cells_ne N hW
  clear F N X T
  (have hY := CellsAre.two Y; obtain ⟨o1, o2, hE1, d1, d2⟩ := hY; subst hE1; clear Y)
  (try dsimp only)
  obtain ⟨ne1, ne2, _⟩ := ne
  dsimp only at ne1 ne2
  k_extra "my comp"
  rw [eval_ListComp]
  refine' wpAny_comprehension_free (use := none) rfl ?cs ?cc rfl (by decide) ?_
  case cs => intro _; rfl
  case cc => with_unfolding_all rfl
  dsimp only [firstIter]
  k_extra "my comp"
  (rename Fr _ _ _ _ => F3); (rename News _ _ _ _ => N3)
  refine' compRangeP (fun z => 0 ≤ z ∧ z < 256) F3 N3 rfl (by assumption) (small_one (by decide) (by decide) ?sa ?sb) (rangeSize_nat _ _) ?sz (by decide) rfl rfl ?el ?dn
  case sa => (first | lia | omega)
  case sb => (first | lia | omega)
  case sz => rw [sizeLine_eq]; (first | lia | omega)
  case el =>
    intro g i t C D ys ep own h tk m' E' hkeep hnews hi hm F' N' hD
    have hc1 := hnews _ (.tail _ (.tail _ (.head _)))
    have hc2 := hnews _ (.tail _ (.tail _ (.tail _ (.head _))))
    have X' := X2.keeps hkeep
    have T' := T2.keeps hkeep
    clear hkeep hnews F3 N3
    dsimp only at hc1 hc2
    k_extra "my comp"
    refine CPostP.intro (by assumption) (by assumption) (fun p9 h9 => by k_extra "my own") ⟨fm_lo (by decide), fm_hi (by decide)⟩
  case dn =>
    clear F3 N3
    intro D h' tk ys ep F' N' ne' hlen hI'
    obtain ⟨ns, hI, hb⟩ := hI'
    have hl : ns.length = ys.length := hI.length.symm
    (try dsimp only)
    k_extra "my comp"
    refine' retM (s := s) (Q := Q) hQ (by assumption) ?N ?m ?i0 ?r0 ?r1 ?po
    case N => assumption
    case m => exact .tail _ (.tail _ (.head _))
    case i0 => assumption
    case r0 => assumption
    case r1 => assumption
    exact ⟨_, _, ns, rfl, KBa.ints_make hb, by (first | lia | omega)⟩

end OctS
section RdMS
theorem digit_at {a : Int} {j : Nat} (h : j + 8 ≤ 256) : wt (((bitsN a 256).drop j).take 8) = a / 2 ^ j % 256 := by
  rw [bitsN_drop, bitsN_take _ _ 8 (by (first | lia | omega)), wt_bitsN]
  rfl
theorem digits_in (a : Int) : ∀ n ∈ digits (bitsN a 256), 0 ≤ n ∧ n < 256 := by
  intro n hn
  obtain ⟨i, hi, rfl⟩ := List.mem_map.mp hn
  rw [digit_at (by (first | lia | omega))]
  (first | lia | omega)
theorem digits_len (ns : List Int) : (digits ns).length = 32 := by simp [digits]
theorem digits_little (a : Int) : (KTBy.little 32 a).reverse = digits (bitsN a 256) := by
  apply List.ext_getElem?
  intro i
  by_cases h : i < 32
  · rw [List.getElem?_reverse (by rw [KTBy.little_length]; exact h), KTBy.little_length, KTBy.little_eq]
    simp only [digits, List.getElem?_map, List.getElem?_range h, List.getElem?_range (show 32 - 1 - i < 32 by (first | lia | omega)), Option.map_some]
    rw [digit_at (by (first | lia | omega))]
    have e : (256 : Int) ^ (32 - 1 - i) = 2 ^ (248 - 8 * i) := by
      have : 248 - 8 * i = 8 * (32 - 1 - i) := by (first | lia | omega)
      rw [this, Int.pow_mul]; rfl
    rw [e]
  · rw [List.getElem?_eq_none (by rw [List.length_reverse, KTBy.little_length]; (first | lia | omega)), List.getElem?_eq_none (by rw [digits_len]; (first | lia | omega))]
theorem value_fold : ∀ (ks : List Int) (v : Int), ks.foldl (fun a k => a * 256 + k) v = ks.foldl (fun s b => 256 * s + b) v
  | [], _ => rfl
  | k :: r, v => by rw [List.foldl_cons, List.foldl_cons, Int.mul_comm, value_fold r]
theorem value_append (ks : List Int) (k : Int) : KFB.value (ks ++ [k]) = KFB.value ks * 256 + k := by simp [KFB.value]
theorem value_little : ∀ (n : Nat) (a : Int), KFB.value (KTBy.little n a).reverse = a % 256 ^ n
  | 0, a => by rw [Int.pow_zero, Int.emod_one]; rfl
  | n + 1, a => by
    show KFB.value (a % 256 :: KTBy.little n (a / 256)).reverse = _
    rw [List.reverse_cons, value_append, value_little n]
    have hp : (0 : Int) < 256 ^ n := Int.pow_pos (by decide)
    have h1 := Int.mul_ediv_add_emod a 256
    have h2 := Int.mul_ediv_add_emod (a / 256) (256 ^ n)
    have h3 := Int.mul_ediv_add_emod a (256 ^ (n + 1))
    have h4 : a / 256 / 256 ^ n = a / 256 ^ (n + 1) := by rw [Int.pow_succ, Int.mul_comm, Int.ediv_ediv_of_nonneg (by decide)]
    rw [h4] at h2
    have h5 : (256 : Int) ^ (n + 1) * (a / 256 ^ (n + 1)) = 256 * (256 ^ n * (a / 256 ^ (n + 1))) := by rw [Int.pow_succ, Int.mul_comm (256 ^ n) 256, Int.mul_assoc]
    rw [h5] at h3
    (first | lia | omega)
theorem value_digits {a : Int} (h0 : 0 ≤ a) (h1 : a < WORD) : KFB.value (digits (bitsN a 256)) = a := by
  rw [← digits_little, value_little]
  have : (256 : Int) ^ 32 = WORD := by decide +kernel
  rw [this]; exact Int.emod_eq_of_lt h0 h1
theorem word_self {a : Int} (h0 : 0 ≤ a) (h1 : a < WORD) : a.fmod WORD = a := by rw [fmodW]; exact Int.emod_eq_of_lt h0 h1
theorem addr_bits (a : Int) : a.fmod ADDR = wt ((bitsN a 256).take 160) := by
  rw [bitsN_take _ _ _ (by decide), wt_bitsN, Int.fmod_eq_emod_of_nonneg _ (by decide)]
  have : (2 : Int) ^ 160 = ADDR := by decide +kernel
  rw [this]
theorem bInts_inj {b c : Array UInt8} (h : KBw.bInts b = KBw.bInts c) : b.toList = c.toList := by
  unfold KBw.bInts at h
  have all : ∀ (x y : List UInt8), x.map (fun c => (c.toNat : Int)) = y.map (fun c => (c.toNat : Int)) → x = y := by
    intro x
    induction x with
    | nil => intro y e; cases y with
      | nil => rfl
      | cons _ _ => cases e
    | cons a r ih => intro y e; cases y with
      | nil => cases e
      | cons b q =>
        rw [List.map_cons, List.map_cons, List.cons.injEq] at e
        have e1 : a.toNat = b.toNat := by have := e.1; (first | lia | omega)
        rw [ih q e.2, UInt8.toNat_inj.mp e1]
  exact all _ _ h
theorem clip_same (n : Nat) : clipAt n (if (n : Int) - 32 > 0 then (n : Int) - 32 else 0) = clipAt n (-32) := by
  unfold clipAt
  rw [if_pos (by decide : (-32 : Int) < 0), Int.add_comm (-32), ← Int.sub_eq_add_neg]
  by_cases h : (n : Int) - 32 > 0
  · rw [if_pos h, if_neg (Int.not_lt.mpr (Int.le_of_lt h))]
  · have h' := Int.not_lt.mp h
    rw [if_neg h, if_neg (Int.lt_irrefl 0), Int.max_eq_left (Int.min_le_left _ _), Int.max_eq_left (Int.le_trans (Int.min_le_left _ _) h')]
theorem rr1 {P : Prop} {x : Int} (h : x.fmod WORD ≠ x % WORD) : P := absurd (fmodW x) h
theorem rr2 {P : Prop} {a : Int} (h0 : 0 ≤ a) (h1 : a < WORD) (h : a.fmod WORD ≠ a) : P := absurd (word_self h0 h1) h
theorem rr3 {P : Prop} {a : Int} {b : Array UInt8} (h0 : 0 ≤ a) (h1 : a < WORD) (hb : KBw.bInts b = (KTBy.little 32 (a.fmod WORD)).reverse) (h : (b.toList != (byteArr (digits (bitsN a 256))).toList) = true) : P := by
  rw [word_self h0 h1, digits_little] at hb
  have e := bInts_inj (hb.trans (KBa.ints_make (digits_in a)).symm)
  rw [e] at h
  simp at h
theorem rr4 {P : Prop} {ks : List Int} {s : Int} (hs : s = List.foldl (fun s b => 256 * s + b) 0 (List.take (ks.length - clipAt ks.length (if (ks.length : Int) - 32 > 0 then (ks.length : Int) - 32 else 0)) (List.drop (clipAt ks.length (if (ks.length : Int) - 32 > 0 then (ks.length : Int) - 32 else 0)) ks)))
    (h : KFB.value (List.take (ks.length - clipAt ks.length (-32)) (List.drop (clipAt ks.length (-32)) ks)) ≠ s) : P := by
  rw [clip_same] at hs
  rw [hs] at h
  exact absurd (value_fold _ _) h
theorem clip32 : clipAt 32 (-32) = 0 := by decide
theorem rr5 {P : Prop} {a : Int} (h0 : 0 ≤ a) (h1 : a < WORD)
    (h : KFB.value (List.take ((digits (bitsN a 256)).length - clipAt (digits (bitsN a 256)).length (-32)) (List.drop (clipAt (digits (bitsN a 256)).length (-32)) (digits (bitsN a 256)))) ≠ a) : P := by
  rw [digits_len, clip32, List.drop_zero, List.take_of_length_le (by rw [digits_len]; (first | lia | omega)), value_digits h0 h1] at h
  exact absurd rfl h
theorem rr6 (a : Int) : (a.fmod ADDR == wt (List.take 160 (bitsN a 256))) = true := by rw [addr_bits]; exact beq_self_eq_true _

end RdMS
theorem reg32b : True := by
  k_with_none
  k_with "my enter" => (((case X => assumption); k_extra "zE"; (case hb => exact BindsTo.of_eq rfl); k_extra "zF"; (intro L' h₁ tk₁ mean mg mb m₁ F N X T R' env' A'); (refine withP (Here.of (env := env') (L := L') X T rfl rfl rfl) ?_; intro zHe); k_fold))
  k_with "my enterF" => ((k_extra "zE"; (case hb => exact fun s => BindsTo.of_eq rfl); k_extra "zF"; (intro s Q E dp un gd outer V K tg n1 vs n2 hI hQ L' h₁ tk₁ mean mg mb m₁ g₁ nx₁ F N X T R' env' A'); (refine withP (Here.of (env := env') (L := L') X T rfl rfl rfl) ?_; intro zHe); k_fold))
  k_with "my auto" => (repeat' (first | (k_unfold; (try dsimp only)) | (k_extra "my name") | walk1 | (dsimp only; walk1) | fail "no step"))
  k_with "no loop" => (((fail_if_success (with_reducible show wpAny _ _ (exec (Stmt.While _ _ _ _) _) _ _ _)); (fail_if_success (with_reducible show wpAny _ _ (pyIter _) _ _ _))))
  k_with "my steps" => (repeat' (first | (k_unfold; (try dsimp only)) | (k_extra "my name") | (k_extra "no loop"; walk1) | (k_extra "no loop"; dsimp only; walk1) | fail "no step"))
  k_with "my list" => (first | exact True.intro | exact IsL.ofNews (by k_asm) (by k_mem) (by l_ints) | exact IsL.ofOld (by k_asm) (by assumption))
  k_with "my back" => (first
  | refine retI (by assumption) (by assumption) ?_
  | refine retB (by assumption) (by assumption) ?_
  | refine retY (by assumption) (by assumption) (by assumption) ?_
  | refine retL (by assumption) (by assumption) (by assumption) (by k_mem) (by l_ints) ?_
  | refine retT (by assumption) (by assumption) (by assumption) (by k_mem) ?_ ?_
  | refine retT3 (by assumption) (by assumption) (by assumption) (by k_mem) ?_ ?_ ?_)
  k_with "my for" => ((k_here; (rename Fr _ _ _ _ => lF'); (with_unfolding_all refine' For_invVF lF' ?k1 ?k2 ?_; (case k1 => exact rfl); (case k2 => exact rfl); k_whole)))
  k_with "exec For Name Subscript cons nil" => ((k_extra "my for"))
  k_with "exec For Name Name cons nil" => ((k_extra "my for"))
  k_with "exec For Name Call cons nil" => ((k_extra "my for"))
  k_with "my pre" => ((k_extra "my list"))
  k_with "my nz" => (first | assumption | decide | k_extra "my om" | (split <;> k_extra "my om"))
  k_with "binaryOp FloorDiv int int" => ((k_dflt (refine' floordiv_int ?k1 ?_ (Or.inl (PyProof.noPylong_of_log2 ?k3)); (case k1 => k_extra "my nz"); (case k3 => first | assumption | decide +kernel | k_extra "my om"))))
  k_with "binaryOp Mod int int" => ((k_dflt (refine' mod_int' ?k1 ?_; (case k1 => k_extra "my nz"))))
  k_with "my bits" => (with_reducible assumption)
  k_with "exec While Compare cons nil" => ((k_extra "while"))
  k_with "binaryOp LShift int int" => ((k_dflt (refine' lshift_int ?k1 ?k2 ?_; (case k1 => first | assumption | decide | k_extra "my om"); (case k2 => first | k_extra "my om" | decide +kernel))))
  k_with "binaryOp RShift int int" => ((k_dflt (refine' rshift_int ?k1 ?_; (case k1 => first | assumption | decide | k_extra "my om"))))
  k_with "my fin" => (((repeat' (first | rw [if_pos (by first | assumption | k_extra "my om")] | rw [if_neg (by first | assumption | k_extra "my om")])); first | done | rfl | k_extra "my om"))
  k_with "my rows" => (first | exact List.forall_mem_nil _ | (refine allC (by with_unfolding_all rfl) ?_; k_extra "my rows"))
  k_with "my own" => (first | assumption | (refine List.mem_append.mpr (.inr ?_); k_extra "my own") | (refine List.Mem.tail _ ?_; k_extra "my own"))
  k_with "my led" => (first | exact List.forall_mem_nil _ | (refine allC (by k_memK) ?_; k_extra "my led") | (intro p9 h9; k_extra "my own"))
  k_with "WPost" => ((dsimp only [WPost]))
  k_with "FPost" => ((dsimp only [FPost]))
  k_with "my words" => (repeat' (first | (k_unfold; (try dsimp only)) | (k_extra "my name") | (k_extra "no loop"; walk1) | (k_extra "no loop"; dsimp only; walk1) | (k_extra "loop") | fail "no step"))
  k_with "subscriptTail Name Slice ref ref" => ((k_here; (with_reducible show wpAny _ _ (subscriptTail _ (PySem.Expr.Slice _ _ none _) (Value.ref _) (Value.ref _)) _ _ _); k_dflt (refine' kmk_slice_ints ?F ?N ?l ?p ?q ?i ?m rfl ?_ ?s ?t ?z; (case F => k_asm); (case N => k_asm); (case l => kmk_list); (case p => kmk_part); (case q => kmk_part); (case i => l_ints); (case m => kmk_nums); (case s => with_unfolding_all rfl); (case t => kmk_pure); (case z => kmk_size)); intro D' ws' h' F' N' l1 hI' hC' hL'; clear hC' hL'; (try simp only [Int.reduceNeg, Int.neg_neg, Int.reduceToNat] at hI'); (try k_lt l1); (try k_sweep)))
  k_with "my len" => (first | k_extra "my om" | ((simp only [List.length_take, List.length_drop, List.length_append, List.length_replicate, List.length_reverse, List.length_cons, List.length_nil, List.length_map]); k_extra "my om"))
  k_with "call builtin:len" => ((k_here; (with_reducible show wpAny _ _ (call (Value.builtin _) [Value.ref _]) _ _ _); k_dflt (refine' len_ints_fit ?k1 ?k2 ?k3 ?_; (case k1 => is_list); (case k2 => l_ints); (case k3 => k_extra "my len"); k_whole)))
  k_with "my comp" => (repeat' (first | (k_unfold; (try dsimp only)) | (k_extra "my name") | (k_extra "no loop"; k_extra "no comp"; walk1) | (k_extra "no loop"; k_extra "no comp"; dsimp only; walk1) | (k_extra "loop") | fail "no step"))
  k_with "no comp" => ((fail_if_success (with_reducible show wpAny _ _ (eval (Expr.ListComp _ _ _ _) _) _ _ _)))
  k_with "compareOp Eq ref ref" => ((k_here; (with_reducible show wpAny _ _ (compareOp CmpOp.Eq (Value.ref _) (Value.ref _)) _ _ _); (with_unfolding_all refine' eq_intsK ?k1 ?k2 ?k3 ?k4 ?k5 ?_; (case k1 => is_list); (case k2 => l_intsC); (case k3 => is_list); (case k4 => l_intsC); (case k5 => exact room_eq (by assumption)); k_whole)))
  k_with "compareOp NotEq ref ref" => ((k_here; (with_reducible show wpAny _ _ (compareOp CmpOp.NotEq (Value.ref _) (Value.ref _)) _ _ _); (with_unfolding_all refine' ne_intsK ?k1 ?k2 ?k3 ?k4 ?k5 ?_; (case k1 => is_list); (case k2 => l_intsC); (case k3 => is_list); (case k4 => l_intsC); (case k5 => exact room_eq (by assumption)); k_whole)))
  k_with "storeName" => ((k_here; k_dflt (refine' storeY ?F ?N ?_ ?a ?b; (case F => k_asm); (case N => k_asm); (case a => rfl); (case b => rfl); k_whole); intro h' tk' m' F' N'; (try k_sweep)))
  k_with "k ne" => ((refine neN ?_; (try dsimp only); first | with_reducible assumption | (refine Ne.symm ?_; with_reducible assumption) | ((simp only [*, ne_eq, not_false_eq_true]); done) | (refine Ne.symm ?_; (simp only [*, ne_eq, not_false_eq_true]); done) | omega))
  k_with "my nones" => ((repeat (first | (with_reducible rename @Ne Nat _ _ => zz; clear zz) | (with_reducible rename And (@Ne Nat _ _) _ => zz; clear zz))))
  k_with "my om" => ((k_extra "my nones"; omega))
  k_with "my name" => (((fail_if_success (fail_if_success k_fold)); (first | (fail_if_success (fail_if_success (with_reducible show wpAny _ _ (exec _ _) _ _ _))) | ((fail_if_success (fail_if_success (with_reducible show wpAny _ _ (eval (Expr.Call _ _ _ _) _) _ _ _))); k_extra "no plain call") | (fail_if_success (fail_if_success (with_reducible show wpAny _ _ (eval (Expr.Tuple _ _ _) _) _ _ _))) | ((fail_if_success (fail_if_success (with_reducible show wpAny _ _ (eval (Expr.BinOp _ _ _ _) _) _ _ _))); k_extra "no plain bin") | (fail_if_success (fail_if_success (with_reducible show wpAny _ _ (eval (Expr.IfExp _ _ _ _) _) _ _ _)))); refine nameQ ?_; intro qn))
  k_with "my he" => (first | with_reducible assumption | exact Here.of (by k_asm) (by k_asm) rfl rfl rfl)
  k_with "eval BinOp" => ((k_here; (with_reducible show wpAny _ _ (eval (Expr.BinOp (Expr.Name _ _) _ (Expr.Name _ _) _) _) _ _ _); k_dflt (refine' binNN ?zH ?zF ?zl1 ?zv1 ?zl2 ?zv2 ?_; (case zF => k_asm); k_extra "z1"; k_extra "z2"; (case zH => k_extra "my he"); k_whole)))
  k_with "eval BinOp" => ((k_here; (with_reducible show wpAny _ _ (eval (Expr.BinOp (Expr.Name _ _) _ (Expr.Constant (Const.int _) _ _) _) _) _ _ _); k_dflt (refine' binNC ?zH ?zF ?zl1 ?zv1 ?_; (case zF => k_asm); k_extra "z1"; (case zH => k_extra "my he"); k_whole)))
  k_with "eval BinOp" => ((k_here; (with_reducible show wpAny _ _ (eval (Expr.BinOp (Expr.Constant (Const.int _) _ _) _ (Expr.Name _ _) _) _) _ _ _); k_dflt (refine' binCN ?zH ?zF ?zl1 ?zv1 ?_; (case zF => k_asm); k_extra "z1"; (case zH => k_extra "my he"); k_whole)))
  k_with "isTrue Compare" => ((k_here; (with_reducible show wpAny _ _ (isTrue (Expr.Compare (Expr.Name _ _) [_] [Expr.Name _ _] _) _ _) _ _ _); k_dflt (refine' tstNN ?zH ?zF ?zl1 ?zv1 ?zl2 ?zv2 ?zm ?_; (case zF => k_asm); k_extra "z1"; k_extra "z2"; (case zm => with_unfolding_all rfl); (case zH => k_extra "my he"); k_whole)))
  k_with "isTrue Compare" => ((k_here; (with_reducible show wpAny _ _ (isTrue (Expr.Compare (Expr.Name _ _) [_] [Expr.Constant (Const.int _) _ _] _) _ _) _ _ _); k_dflt (refine' tstNC ?zH ?zF ?zl1 ?zv1 ?zm ?_; (case zF => k_asm); k_extra "z1"; (case zm => with_unfolding_all rfl); (case zH => k_extra "my he"); k_whole)))
  k_with "eval Call Name" => ((k_here; (with_reducible show wpAny _ _ (eval (Expr.Call (Expr.Name _ _) [_, _] [] _) _) _ _ _); k_dflt (refine' callG2 ?zH ?zF ?zx ?zb ?ze ?zk ?zh1 ?zh2 ?_; k_extra "zc"; (case zh1 => exact rfl); (case zh2 => exact rfl); (case zH => k_extra "my he"); k_whole)))
  k_with "eval Call Name" => ((k_here; (with_reducible show wpAny _ _ (eval (Expr.Call (Expr.Name _ _) [_] [] _) _) _ _ _); k_dflt (refine' callG1 ?zH ?zF ?zx ?zb ?ze ?zk ?zh1 ?_; k_extra "zc"; (case zh1 => exact rfl); (case zH => k_extra "my he"); k_whole)))
  k_with "eval Call Name" => ((k_here; (with_reducible show wpAny _ _ (eval (Expr.Call (Expr.Name _ _) [] [] _) _) _ _ _); k_dflt (refine' callN0 ?zH ?zF ?zx ?zb ?ze ?zk ?_; k_extra "zc"; (case zH => k_extra "my he"); k_whole)))
  k_with "eval Call Name" => ((k_here; (with_reducible show wpAny _ _ (eval (Expr.Call (Expr.Name _ _) [Expr.Name _ _, Expr.Name _ _, Expr.Name _ _] [] _) _) _ _ _); k_dflt (refine' callN3 ?zH ?zF ?zx ?zb ?ze ?zk ?zl1 ?zv1 ?zl2 ?zv2 ?zl3 ?zv3 ?_; k_extra "zc"; k_extra "z1"; k_extra "z2"; k_extra "z3"; (case zH => k_extra "my he"); k_whole)))
  k_with "eval Call Name" => ((k_here; (with_reducible show wpAny _ _ (eval (Expr.Call (Expr.Name _ _) [Expr.Name _ _, Expr.Constant (Const.int _) _ _] [] _) _) _ _ _); k_dflt (refine' callNC ?zH ?zF ?zx ?zb ?ze ?zk ?zl1 ?zv1 ?_; k_extra "zc"; k_extra "z1"; (case zH => k_extra "my he"); k_whole)))
  k_with "eval Call Name" => ((k_here; (with_reducible show wpAny _ _ (eval (Expr.Call (Expr.Name _ _) [Expr.Name _ _, Expr.Name _ _] [] _) _) _ _ _); k_dflt (refine' callN2 ?zH ?zF ?zx ?zb ?ze ?zk ?zl1 ?zv1 ?zl2 ?zv2 ?_; k_extra "zc"; k_extra "z1"; k_extra "z2"; (case zH => k_extra "my he"); k_whole)))
  k_with "eval Call Name" => ((k_here; (with_reducible show wpAny _ _ (eval (Expr.Call (Expr.Name _ _) [Expr.Name _ _] [] _) _) _ _ _); k_dflt (refine' callN1 ?zH ?zF ?zx ?zb ?ze ?zk ?zl1 ?zv1 ?_; k_extra "zc"; k_extra "z1"; (case zH => k_extra "my he"); k_whole)))
  k_with "eval Constant int" => ((refine constI ?_))
  k_with "eval Name" => ((k_here; (with_reducible show wpAny _ _ (eval (Expr.Name _ _) _) _ _ _); k_dflt (refine' nameLoc ?zqzH ?zqzF ?zqzl1 ?zqzv1 ?_; (case zqzF => k_asm); k_extra "z1"; (case zqzH => k_extra "my he"); k_whole)))
  k_with "k all" => (first | exact List.forall_mem_nil _ | (refine' allC ?a ?b; (case a => k_ne); (case b => k_extra "k all")))
  k_with "no plain bin" => ((fail_if_success (first | (with_reducible show wpAny _ _ (eval (Expr.BinOp (Expr.Name _ _) _ (Expr.Name _ _) _) _) _ _ _) | (with_reducible show wpAny _ _ (eval (Expr.BinOp (Expr.Name _ _) _ (Expr.Constant (Const.int _) _ _) _) _) _ _ _) | (with_reducible show wpAny _ _ (eval (Expr.BinOp (Expr.Constant (Const.int _) _ _) _ (Expr.Name _ _) _) _) _ _ _))))
  k_with "no plain call" => ((fail_if_success (first | (with_reducible show wpAny _ _ (eval (Expr.Call (Expr.Name _ _) [] [] _) _) _ _ _) | (with_reducible show wpAny _ _ (eval (Expr.Call (Expr.Name _ _) [Expr.Name _ _] [] _) _) _ _ _) | (with_reducible show wpAny _ _ (eval (Expr.Call (Expr.Name _ _) [Expr.Name _ _, Expr.Name _ _] [] _) _) _ _ _) | (with_reducible show wpAny _ _ (eval (Expr.Call (Expr.Name _ _) [Expr.Name _ _, Expr.Constant (Const.int _) _ _] [] _) _) _ _ _) | (with_reducible show wpAny _ _ (eval (Expr.Call (Expr.Name _ _) [Expr.Name _ _, Expr.Name _ _, Expr.Name _ _] [] _) _) _ _ _))))
  k_with "my ctx" => (((case kR => assumption); (case kF => k_asm); (case kN => k_asm); (case kX => k_asm); (case kT => k_asm)))
  k_with "my std" => ((k_extra "my ctx"; (case kp => k_extra "my pre")))
  k_with "zc" => (((case zF => k_asm); (case zx => exact Eq.refl (some NameKind.globalImplicit)); (case zb => decide); (case ze => k_is); (case zk => k_is)))
  k_with "eval Call Attribute" => ((refine MethodCall_ ?_))
  k_with "callWith" => (((fail_if_success (fail_if_success (with_reducible show wpAny _ _ (callWith _ (Value.builtin _) [] (backTo _ (starEach (_ :: _) _)) []) _ _ _))); k_dflt (refine PyProof.Rows.callWith_builtin1 ?_)))
  k_with "callWith" => (((fail_if_success (fail_if_success (with_reducible show wpAny _ _ (callWith _ (Value.builtin _) (_ :: _) (backTo _ (starEach (_ :: _) _)) []) _ _ _))); k_dflt (refine PyProof.Rows.callWith_method1 ?_)))
  k_with "eval Call Name" => ((k_dflt (refine callBt (by decide +kernel) ?_)))
  k_with "z1" => (((case zl1 => exact Eq.refl true); (case zv1 => rfl)))
  k_with "z2" => (((case zl2 => exact Eq.refl true); (case zv2 => rfl)))
  k_with "z3" => (((case zl3 => exact Eq.refl true); (case zv3 => rfl)))
  k_with "zE" => (((case ho => k_is); (case hB => exact (rfl : List.cons _ _ = List.cons _ _)); (case hS => exact (rfl : Scope.mk _ _ _ _ _ = Scope.mk _ _ _ _ _)); (case hcd => k_is)))
  k_with "zF" => (((case hl => exact Eq.refl true); (case h1 => rfl); (case h2 => rfl); (case h3 => rfl); (case h4 => exact Eq.refl true)))
  trivial
section RdS
theorem reg33 : True := by
  k_with "call ref" => ((k_here; (fail_if_success (fail_if_success (with_reducible show wpAny _ _ (call (Value.ref 28) _) _ _ _))); k_dflt (refine' Spec.useI (led_spec _ _) ?kR ?kF ?kN ?kX ?kT ?kp ?kk ?_; k_extra "my std"; (case kk => decide); k_whole); intro t' h' tk' F' N'; (try k_sweep)))
  k_with "call ref" => ((k_here; (fail_if_success (fail_if_success (with_reducible show wpAny _ _ (call (Value.ref 35) _) _ _ _))); k_dflt (refine' Spec.useI (with_sign_spec _ _) ?kR ?kF ?kN ?kX ?kT ?kp ?kk ?_; k_extra "my std"; (case kk => decide); k_whole); intro t' h' tk' F' N'; (try k_sweep)))
  k_with "call ref" => ((k_here; (fail_if_success (fail_if_success (with_reducible show wpAny _ _ (call (Value.ref 56) _) _ _ _))); k_dflt (refine' Spec.useI (address_of_spec _ _) ?kR ?kF ?kN ?kX ?kT ?kp ?kk ?_; k_extra "my std"; (case kk => decide); k_whole); intro t' h' tk' F' N'; (try k_sweep)))
  k_with "call ref" => ((k_here; (fail_if_success (fail_if_success (with_reducible show wpAny _ _ (call (Value.ref 618) _) _ _ _))); k_dflt (refine' Spec.useI (law_weight_spec _ _) ?kR ?kF ?kN ?kX ?kT ?kp ?kk ?_; k_extra "my std"; (case kk => decide); k_whole); intro t' h' tk' F' N'; (try k_sweep)))
  k_with "call ref" => ((k_here; (fail_if_success (fail_if_success (with_reducible show wpAny _ _ (call (Value.ref 632) _) _ _ _))); k_dflt (refine' Spec.useT (law_parted_spec _ _ _ _ ?s0 ?s1 ?s2) ?kR ?kF ?kN ?kX ?kT ?kp ?kk ?_; k_extra "my std"; (case s0 => k_extra "my arg"); (case s1 => k_extra "my arg"); (case s2 => k_extra "my arg"); (case kk => decide); k_whole); intro l' t' u' h' tk' ns' F' N' l1; (try (dsimp only [AllNe] at l1)); (try k_sweep)))
  k_with "call ref" => ((k_here; (fail_if_success (fail_if_success (with_reducible show wpAny _ _ (call (Value.ref 564) _) _ _ _))); k_dflt (refine' Spec.useI (law_WORD_spec) ?kR ?kF ?kN ?kX ?kT ?kp ?kk ?_; k_extra "my std"; (case kk => decide); k_whole); intro t' h' tk' F' N'; (try k_sweep)))
  k_with "call ref" => ((k_here; (fail_if_success (fail_if_success (with_reducible show wpAny _ _ (call (Value.ref 639) _) _ _ _))); k_dflt (refine' Spec.useI (law_left_spec _ _ _ _ ?s0 ?s1 ?s2) ?kR ?kF ?kN ?kX ?kT ?kp ?kk ?_; k_extra "my std"; (case s0 => k_extra "my arg"); (case s1 => k_extra "my arg"); (case s2 => k_extra "my arg"); (case kk => decide); k_whole); intro t' h' tk' F' N'; (try k_sweep)))
  k_with "call ref" => ((k_here; (fail_if_success (fail_if_success (with_reducible show wpAny _ _ (call (Value.ref 646) _) _ _ _))); k_dflt (refine' Spec.useI (law_led_spec _ _ ?s0) ?kR ?kF ?kN ?kX ?kT ?kp ?kk ?_; k_extra "my std"; (case s0 => k_extra "my arg"); (case kk => decide); k_whole); intro t' h' tk' F' N'; (try k_sweep)))
  k_with "my bits" => (first | exact two255 | exact Bits.small (by with_reducible assumption) _)
  k_with "my arg" => (first | with_reducible assumption | k_extra "my om" | exact bits_zsub (by k_extra "my arg") | exact bits_edv (by k_extra "my arg") (by k_extra "my om") (by k_extra "my om") | exact bits_emd (by k_extra "my arg") (by k_extra "my om") (by k_extra "my om") | decide | assumption)
  k_with "my pre" => (first | exact ⟨IsL.ofOld (by k_asm) (by with_reducible assumption), by with_reducible assumption⟩ | (refine ⟨?_, ?_⟩ <;> first | (k_extra "my list") | (k_extra "my len")))
  k_with "call ref" => ((k_here; (fail_if_success (fail_if_success (with_reducible show wpAny _ _ (call (Value.ref 42) _) _ _ _))); k_dflt (refine' Spec.useY (word_octets_spec _ _) ?kR ?kF ?kN ?kX ?kT ?kp ?kk ?_; k_extra "my std"; (case kk => decide); k_whole); intro b' t' h' tk' F' N' k'; (try k_sweep)))
  k_with "call ref" => ((k_here; (fail_if_success (fail_if_success (with_reducible show wpAny _ _ (call (Value.ref 49) _) _ _ _))); k_dflt (refine' Spec.useI (octets_word_spec _ _ _ ?s0 ?s1) ?kR ?kF ?kN ?kX ?kT ?kp ?kk ?_; k_extra "my std"; (case s0 => k_extra "my arg"); (case s1 => k_extra "my arg"); (case kk => decide); k_whole); intro t' h' tk' F' N'; (try k_sweep)))
  k_with "call ref" => ((k_here; (fail_if_success (fail_if_success (with_reducible show wpAny _ _ (call (Value.ref 665) _) _ _ _))); k_dflt (refine' Spec.useL (law_digits_spec _ _) ?kR ?kF ?kN ?kX ?kT ?kp ?kk ?_; k_extra "my std"; (case kk => decide); k_whole); intro l' vs' nn' h' tk' ns' F' N' i' e' l1; (try (dsimp only [AllNe] at l1)); (try k_sweep)))
  k_with "call ref" => ((k_here; (fail_if_success (fail_if_success (with_reducible show wpAny _ _ (call (Value.ref 611) _) _ _ _))); k_dflt (refine' Spec.useL (law_bits_specN _ _) ?kR ?kF ?kN ?kX ?kT ?kp ?kk ?_; k_extra "my std"; (case kk => decide); k_whole); intro l' vs' nn' h' tk' ns' F' N' i' e' l1; (try (dsimp only [AllNe] at l1)); (try k_sweep)))
  k_with "call ref" => ((k_here; (fail_if_success (fail_if_success (with_reducible show wpAny _ _ (call (Value.ref 625) _) _ _ _))); k_dflt (refine' Spec.useI (law_signed_specN _ _ ?s0 ?s1) ?kR ?kF ?kN ?kX ?kT ?kp ?kk ?_; k_extra "my std"; (case s0 => k_extra "my arg"); (case s1 => k_extra "my arg"); (case kk => decide); k_whole); intro t' h' tk' F' N'; (try k_sweep)))
  k_with "my arg" => ((simp only [List.length_take, List.length_drop]; k_extra "my om"))
  k_with "storeName" => ((k_here; k_dflt (refine' storeX_L ?F ?N ?_ ?a ?b; (case F => k_asm); (case N => k_asm); (case a => rfl); (case b => rfl); k_whole); intro h' F' N'; (try k_sweep)))
  trivial
theorem law_is_read_right_spec {w : World} (a p x : Int) (t u v r : Tok) (l : Addr) (b : Array UInt8) (ks : List Int) (ha0 : 0 ≤ a) (ha1 : a < WORD) (hx : Builtin.Int.intBits x ≤ 1024) (hb : KBw.bInts b = ks) (hk : ks.length ≤ 40) : Spec w 4 686 [.int a t, .ref l, .int p u, .int x v, .bytes b r] (fun h => IsL h l (bitsN a 256)) (PBool true) := by
  intro s Q E dp un gd outer hR hX hP hQ
  obtain ⟨vs, hl, hi⟩ := hP.list
  have la := len_bits a
  have hlen2 : vs.length = 256 := by rw [hi.length]; exact la
  have hdi := digits_in a
  have hdl := digits_len (bitsN a 256)
  have hbb := KBa.ints_make hdi
  k_with "loop" => k_state (fun pre s => s = pre.foldl (fun s b => 256 * s + b) 0) "sum_told"
  ktr_call [(Str.ofString "a", .int a t), (Str.ofString "bits", .ref l), (Str.ofString "place", .int p u), (Str.ofString "sum_here", .int x v), (Str.ofString "octets", .bytes b r)] hR
  k_extra "my words"
  all_goals first | (k_extra "my back") | (dsimp only; k_extra "my back") | (trace_state; w_report)
  all_goals first | rfl | (k_extra "my fin") | exact rr1 (by assumption) | exact rr2 (by assumption) (by assumption) (by assumption) | exact rr3 (by assumption) (by assumption) (by assumption) (by assumption) | exact rr4 (by assumption) (by assumption) | exact rr5 (by assumption) (by assumption) (by assumption) | exact rr6 _ | trace_state

theorem reg34 : True := by
  k_with "storeName" => ((k_here; k_dflt (refine' storeY ?F ?N ?_ ?a ?b; (case F => k_asm); (case N => k_asm); (case a => rfl); (case b => rfl); k_whole); intro h' tk' m' F' N'; (try k_sweep)))
  trivial
end RdS
theorem reg35b : True := by
  k_with_none
  k_with "my enter" => (((case X => assumption); k_extra "zE"; (case hb => exact BindsTo.of_eq rfl); k_extra "zF"; (intro L' h₁ tk₁ mean mg mb m₁ F N X T R' env' A'); (refine withP (Here.of (env := env') (L := L') X T rfl rfl rfl) ?_; intro zHe); k_fold))
  k_with "my enterF" => ((k_extra "zE"; (case hb => exact fun s => BindsTo.of_eq rfl); k_extra "zF"; (intro s Q E dp un gd outer V K tg n1 vs n2 hI hQ L' h₁ tk₁ mean mg mb m₁ g₁ nx₁ F N X T R' env' A'); (refine withP (Here.of (env := env') (L := L') X T rfl rfl rfl) ?_; intro zHe); k_fold))
  k_with "my auto" => (repeat' (first | (k_unfold; (try dsimp only)) | (k_extra "my name") | walk1 | (dsimp only; walk1) | fail "no step"))
  k_with "no loop" => (((fail_if_success (with_reducible show wpAny _ _ (exec (Stmt.While _ _ _ _) _) _ _ _)); (fail_if_success (with_reducible show wpAny _ _ (pyIter _) _ _ _))))
  k_with "my steps" => (repeat' (first | (k_unfold; (try dsimp only)) | (k_extra "my name") | (k_extra "no loop"; walk1) | (k_extra "no loop"; dsimp only; walk1) | fail "no step"))
  k_with "my list" => (first | exact True.intro | exact IsL.ofNews (by k_asm) (by k_mem) (by l_ints) | exact IsL.ofOld (by k_asm) (by assumption))
  k_with "my back" => (first
  | refine retI (by assumption) (by assumption) ?_
  | refine retB (by assumption) (by assumption) ?_
  | refine retY (by assumption) (by assumption) (by assumption) ?_
  | refine retL (by assumption) (by assumption) (by assumption) (by k_mem) (by l_ints) ?_
  | refine retT (by assumption) (by assumption) (by assumption) (by k_mem) ?_ ?_
  | refine retT3 (by assumption) (by assumption) (by assumption) (by k_mem) ?_ ?_ ?_)
  k_with "my for" => ((k_here; (rename Fr _ _ _ _ => lF'); (with_unfolding_all refine' For_invVF lF' ?k1 ?k2 ?_; (case k1 => exact rfl); (case k2 => exact rfl); k_whole)))
  k_with "exec For Name Subscript cons nil" => ((k_extra "my for"))
  k_with "exec For Name Name cons nil" => ((k_extra "my for"))
  k_with "exec For Name Call cons nil" => ((k_extra "my for"))
  k_with "my pre" => ((k_extra "my list"))
  k_with "my nz" => (first | assumption | decide | k_extra "my om" | (split <;> k_extra "my om"))
  k_with "binaryOp FloorDiv int int" => ((k_dflt (refine' floordiv_int ?k1 ?_ (Or.inl (PyProof.noPylong_of_log2 ?k3)); (case k1 => k_extra "my nz"); (case k3 => first | assumption | decide +kernel | k_extra "my om"))))
  k_with "binaryOp Mod int int" => ((k_dflt (refine' mod_int' ?k1 ?_; (case k1 => k_extra "my nz"))))
  k_with "my bits" => (with_reducible assumption)
  k_with "exec While Compare cons nil" => ((k_extra "while"))
  k_with "binaryOp LShift int int" => ((k_dflt (refine' lshift_int ?k1 ?k2 ?_; (case k1 => first | assumption | decide | k_extra "my om"); (case k2 => first | k_extra "my om" | decide +kernel))))
  k_with "binaryOp RShift int int" => ((k_dflt (refine' rshift_int ?k1 ?_; (case k1 => first | assumption | decide | k_extra "my om"))))
  k_with "my fin" => (((repeat' (first | rw [if_pos (by first | assumption | k_extra "my om")] | rw [if_neg (by first | assumption | k_extra "my om")])); first | done | rfl | k_extra "my om"))
  k_with "my rows" => (first | exact List.forall_mem_nil _ | (refine allC (by with_unfolding_all rfl) ?_; k_extra "my rows"))
  k_with "my own" => (first | assumption | (refine List.mem_append.mpr (.inr ?_); k_extra "my own") | (refine List.Mem.tail _ ?_; k_extra "my own"))
  k_with "my led" => (first | exact List.forall_mem_nil _ | (refine allC (by k_memK) ?_; k_extra "my led") | (intro p9 h9; k_extra "my own"))
  k_with "WPost" => ((dsimp only [WPost]))
  k_with "FPost" => ((dsimp only [FPost]))
  k_with "my words" => (repeat' (first | (k_unfold; (try dsimp only)) | (k_extra "my name") | (k_extra "no loop"; walk1) | (k_extra "no loop"; dsimp only; walk1) | (k_extra "loop") | fail "no step"))
  k_with "subscriptTail Name Slice ref ref" => ((k_here; (with_reducible show wpAny _ _ (subscriptTail _ (PySem.Expr.Slice _ _ none _) (Value.ref _) (Value.ref _)) _ _ _); k_dflt (refine' kmk_slice_ints ?F ?N ?l ?p ?q ?i ?m rfl ?_ ?s ?t ?z; (case F => k_asm); (case N => k_asm); (case l => kmk_list); (case p => kmk_part); (case q => kmk_part); (case i => l_ints); (case m => kmk_nums); (case s => with_unfolding_all rfl); (case t => kmk_pure); (case z => kmk_size)); intro D' ws' h' F' N' l1 hI' hC' hL'; clear hC' hL'; (try simp only [Int.reduceNeg, Int.neg_neg, Int.reduceToNat] at hI'); (try k_lt l1); (try k_sweep)))
  k_with "my len" => (first | k_extra "my om" | ((simp only [List.length_take, List.length_drop, List.length_append, List.length_replicate, List.length_reverse, List.length_cons, List.length_nil, List.length_map]); k_extra "my om"))
  k_with "call builtin:len" => ((k_here; (with_reducible show wpAny _ _ (call (Value.builtin _) [Value.ref _]) _ _ _); k_dflt (refine' len_ints_fit ?k1 ?k2 ?k3 ?_; (case k1 => is_list); (case k2 => l_ints); (case k3 => k_extra "my len"); k_whole)))
  k_with "my comp" => (repeat' (first | (k_unfold; (try dsimp only)) | (k_extra "my name") | (k_extra "no loop"; k_extra "no comp"; walk1) | (k_extra "no loop"; k_extra "no comp"; dsimp only; walk1) | (k_extra "loop") | fail "no step"))
  k_with "no comp" => ((fail_if_success (with_reducible show wpAny _ _ (eval (Expr.ListComp _ _ _ _) _) _ _ _)))
  k_with "compareOp Eq ref ref" => ((k_here; (with_reducible show wpAny _ _ (compareOp CmpOp.Eq (Value.ref _) (Value.ref _)) _ _ _); (with_unfolding_all refine' eq_intsK ?k1 ?k2 ?k3 ?k4 ?k5 ?_; (case k1 => is_list); (case k2 => l_intsC); (case k3 => is_list); (case k4 => l_intsC); (case k5 => exact room_eq (by assumption)); k_whole)))
  k_with "compareOp NotEq ref ref" => ((k_here; (with_reducible show wpAny _ _ (compareOp CmpOp.NotEq (Value.ref _) (Value.ref _)) _ _ _); (with_unfolding_all refine' ne_intsK ?k1 ?k2 ?k3 ?k4 ?k5 ?_; (case k1 => is_list); (case k2 => l_intsC); (case k3 => is_list); (case k4 => l_intsC); (case k5 => exact room_eq (by assumption)); k_whole)))
  k_with "storeName" => ((k_here; k_dflt (refine' storeY ?F ?N ?_ ?a ?b; (case F => k_asm); (case N => k_asm); (case a => rfl); (case b => rfl); k_whole); intro h' tk' m' F' N'; (try k_sweep)))
  k_with "k ne" => ((refine neN ?_; (try dsimp only); first | with_reducible assumption | (refine Ne.symm ?_; with_reducible assumption) | ((simp only [*, ne_eq, not_false_eq_true]); done) | (refine Ne.symm ?_; (simp only [*, ne_eq, not_false_eq_true]); done) | omega))
  k_with "my nones" => ((repeat (first | (with_reducible rename @Ne Nat _ _ => zz; clear zz) | (with_reducible rename And (@Ne Nat _ _) _ => zz; clear zz))))
  k_with "my om" => ((k_extra "my nones"; omega))
  k_with "my name" => (((fail_if_success (fail_if_success k_fold)); (first | (fail_if_success (fail_if_success (with_reducible show wpAny _ _ (exec _ _) _ _ _))) | ((fail_if_success (fail_if_success (with_reducible show wpAny _ _ (eval (Expr.Call _ _ _ _) _) _ _ _))); k_extra "no plain call") | (fail_if_success (fail_if_success (with_reducible show wpAny _ _ (eval (Expr.Tuple _ _ _) _) _ _ _))) | ((fail_if_success (fail_if_success (with_reducible show wpAny _ _ (eval (Expr.BinOp _ _ _ _) _) _ _ _))); k_extra "no plain bin") | (fail_if_success (fail_if_success (with_reducible show wpAny _ _ (eval (Expr.IfExp _ _ _ _) _) _ _ _)))); refine nameQ ?_; intro qn))
  k_with "my he" => (first | with_reducible assumption | exact Here.of (by k_asm) (by k_asm) rfl rfl rfl)
  k_with "eval BinOp" => ((k_here; (with_reducible show wpAny _ _ (eval (Expr.BinOp (Expr.Name _ _) _ (Expr.Name _ _) _) _) _ _ _); k_dflt (refine' binNN ?zH ?zF ?zl1 ?zv1 ?zl2 ?zv2 ?_; (case zF => k_asm); k_extra "z1"; k_extra "z2"; (case zH => k_extra "my he"); k_whole)))
  k_with "eval BinOp" => ((k_here; (with_reducible show wpAny _ _ (eval (Expr.BinOp (Expr.Name _ _) _ (Expr.Constant (Const.int _) _ _) _) _) _ _ _); k_dflt (refine' binNC ?zH ?zF ?zl1 ?zv1 ?_; (case zF => k_asm); k_extra "z1"; (case zH => k_extra "my he"); k_whole)))
  k_with "eval BinOp" => ((k_here; (with_reducible show wpAny _ _ (eval (Expr.BinOp (Expr.Constant (Const.int _) _ _) _ (Expr.Name _ _) _) _) _ _ _); k_dflt (refine' binCN ?zH ?zF ?zl1 ?zv1 ?_; (case zF => k_asm); k_extra "z1"; (case zH => k_extra "my he"); k_whole)))
  k_with "isTrue Compare" => ((k_here; (with_reducible show wpAny _ _ (isTrue (Expr.Compare (Expr.Name _ _) [_] [Expr.Name _ _] _) _ _) _ _ _); k_dflt (refine' tstNN ?zH ?zF ?zl1 ?zv1 ?zl2 ?zv2 ?zm ?_; (case zF => k_asm); k_extra "z1"; k_extra "z2"; (case zm => with_unfolding_all rfl); (case zH => k_extra "my he"); k_whole)))
  k_with "isTrue Compare" => ((k_here; (with_reducible show wpAny _ _ (isTrue (Expr.Compare (Expr.Name _ _) [_] [Expr.Constant (Const.int _) _ _] _) _ _) _ _ _); k_dflt (refine' tstNC ?zH ?zF ?zl1 ?zv1 ?zm ?_; (case zF => k_asm); k_extra "z1"; (case zm => with_unfolding_all rfl); (case zH => k_extra "my he"); k_whole)))
  k_with "eval Call Name" => ((k_here; (with_reducible show wpAny _ _ (eval (Expr.Call (Expr.Name _ _) [_, _] [] _) _) _ _ _); k_dflt (refine' callG2 ?zH ?zF ?zx ?zb ?ze ?zk ?zh1 ?zh2 ?_; k_extra "zc"; (case zh1 => exact rfl); (case zh2 => exact rfl); (case zH => k_extra "my he"); k_whole)))
  k_with "eval Call Name" => ((k_here; (with_reducible show wpAny _ _ (eval (Expr.Call (Expr.Name _ _) [_] [] _) _) _ _ _); k_dflt (refine' callG1 ?zH ?zF ?zx ?zb ?ze ?zk ?zh1 ?_; k_extra "zc"; (case zh1 => exact rfl); (case zH => k_extra "my he"); k_whole)))
  k_with "eval Call Name" => ((k_here; (with_reducible show wpAny _ _ (eval (Expr.Call (Expr.Name _ _) [] [] _) _) _ _ _); k_dflt (refine' callN0 ?zH ?zF ?zx ?zb ?ze ?zk ?_; k_extra "zc"; (case zH => k_extra "my he"); k_whole)))
  k_with "eval Call Name" => ((k_here; (with_reducible show wpAny _ _ (eval (Expr.Call (Expr.Name _ _) [Expr.Name _ _, Expr.Name _ _, Expr.Name _ _] [] _) _) _ _ _); k_dflt (refine' callN3 ?zH ?zF ?zx ?zb ?ze ?zk ?zl1 ?zv1 ?zl2 ?zv2 ?zl3 ?zv3 ?_; k_extra "zc"; k_extra "z1"; k_extra "z2"; k_extra "z3"; (case zH => k_extra "my he"); k_whole)))
  k_with "eval Call Name" => ((k_here; (with_reducible show wpAny _ _ (eval (Expr.Call (Expr.Name _ _) [Expr.Name _ _, Expr.Constant (Const.int _) _ _] [] _) _) _ _ _); k_dflt (refine' callNC ?zH ?zF ?zx ?zb ?ze ?zk ?zl1 ?zv1 ?_; k_extra "zc"; k_extra "z1"; (case zH => k_extra "my he"); k_whole)))
  k_with "eval Call Name" => ((k_here; (with_reducible show wpAny _ _ (eval (Expr.Call (Expr.Name _ _) [Expr.Name _ _, Expr.Name _ _] [] _) _) _ _ _); k_dflt (refine' callN2 ?zH ?zF ?zx ?zb ?ze ?zk ?zl1 ?zv1 ?zl2 ?zv2 ?_; k_extra "zc"; k_extra "z1"; k_extra "z2"; (case zH => k_extra "my he"); k_whole)))
  k_with "eval Call Name" => ((k_here; (with_reducible show wpAny _ _ (eval (Expr.Call (Expr.Name _ _) [Expr.Name _ _] [] _) _) _ _ _); k_dflt (refine' callN1 ?zH ?zF ?zx ?zb ?ze ?zk ?zl1 ?zv1 ?_; k_extra "zc"; k_extra "z1"; (case zH => k_extra "my he"); k_whole)))
  k_with "eval Constant int" => ((refine constI ?_))
  k_with "eval Name" => ((k_here; (with_reducible show wpAny _ _ (eval (Expr.Name _ _) _) _ _ _); k_dflt (refine' nameLoc ?zqzH ?zqzF ?zqzl1 ?zqzv1 ?_; (case zqzF => k_asm); k_extra "z1"; (case zqzH => k_extra "my he"); k_whole)))
  k_with "k all" => (first | exact List.forall_mem_nil _ | (refine' allC ?a ?b; (case a => k_ne); (case b => k_extra "k all")))
  k_with "no plain bin" => ((fail_if_success (first | (with_reducible show wpAny _ _ (eval (Expr.BinOp (Expr.Name _ _) _ (Expr.Name _ _) _) _) _ _ _) | (with_reducible show wpAny _ _ (eval (Expr.BinOp (Expr.Name _ _) _ (Expr.Constant (Const.int _) _ _) _) _) _ _ _) | (with_reducible show wpAny _ _ (eval (Expr.BinOp (Expr.Constant (Const.int _) _ _) _ (Expr.Name _ _) _) _) _ _ _))))
  k_with "no plain call" => ((fail_if_success (first | (with_reducible show wpAny _ _ (eval (Expr.Call (Expr.Name _ _) [] [] _) _) _ _ _) | (with_reducible show wpAny _ _ (eval (Expr.Call (Expr.Name _ _) [Expr.Name _ _] [] _) _) _ _ _) | (with_reducible show wpAny _ _ (eval (Expr.Call (Expr.Name _ _) [Expr.Name _ _, Expr.Name _ _] [] _) _) _ _ _) | (with_reducible show wpAny _ _ (eval (Expr.Call (Expr.Name _ _) [Expr.Name _ _, Expr.Constant (Const.int _) _ _] [] _) _) _ _ _) | (with_reducible show wpAny _ _ (eval (Expr.Call (Expr.Name _ _) [Expr.Name _ _, Expr.Name _ _, Expr.Name _ _] [] _) _) _ _ _))))
  k_with "my ctx" => (((case kR => assumption); (case kF => k_asm); (case kN => k_asm); (case kX => k_asm); (case kT => k_asm)))
  k_with "my std" => ((k_extra "my ctx"; (case kp => k_extra "my pre")))
  k_with "zc" => (((case zF => k_asm); (case zx => exact Eq.refl (some NameKind.globalImplicit)); (case zb => decide); (case ze => k_is); (case zk => k_is)))
  k_with "eval Call Attribute" => ((refine MethodCall_ ?_))
  k_with "callWith" => (((fail_if_success (fail_if_success (with_reducible show wpAny _ _ (callWith _ (Value.builtin _) [] (backTo _ (starEach (_ :: _) _)) []) _ _ _))); k_dflt (refine PyProof.Rows.callWith_builtin1 ?_)))
  k_with "callWith" => (((fail_if_success (fail_if_success (with_reducible show wpAny _ _ (callWith _ (Value.builtin _) (_ :: _) (backTo _ (starEach (_ :: _) _)) []) _ _ _))); k_dflt (refine PyProof.Rows.callWith_method1 ?_)))
  k_with "eval Call Name" => ((k_dflt (refine callBt (by decide +kernel) ?_)))
  k_with "z1" => (((case zl1 => exact Eq.refl true); (case zv1 => rfl)))
  k_with "z2" => (((case zl2 => exact Eq.refl true); (case zv2 => rfl)))
  k_with "z3" => (((case zl3 => exact Eq.refl true); (case zv3 => rfl)))
  k_with "zE" => (((case ho => k_is); (case hB => exact (rfl : List.cons _ _ = List.cons _ _)); (case hS => exact (rfl : Scope.mk _ _ _ _ _ = Scope.mk _ _ _ _ _)); (case hcd => k_is)))
  k_with "zF" => (((case hl => exact Eq.refl true); (case h1 => rfl); (case h2 => rfl); (case h3 => rfl); (case h4 => exact Eq.refl true)))
  trivial
section EIS
section
open MineH
variable {w : World} {s : Shared} {Q E : Value → Shared → Prop} {n dp un : Nat} {gd : Option (List Code)} {outer : List Env}
  {name qual : Str} {params : Arguments} {body : List Stmt} {scope : Scope} {dV kV doc pm cdv ct oc : Value} {an od : Option Addr} {osl : Array (Option Value)} {f C : Addr} {args : List Value} {binds : Value → List (Str × Value)}
theorem enterInit {body₀ : List Stmt} {scope₀ : Scope} (R : Room (n + 2) dp un) (X : Wd w s.heap) (hm : makesIn (hd.heap_39 w.params) C = true) (hi : findIn (hd.heap_39 w.params) (.ref C) "__init__" = some (some (.ref f))) (hf : isFn (hd.heap_39 w.params) (.ref f) = true)
    (ho : (hd.heap_39 w.params).lookup f = some ⟨oc, od, .func (fnOf name qual params body₀ scope₀ dV kV doc pm an cdv ct), osl⟩) (hbo : body₀ = body) (hso : scope₀ = scope) (hcd : codeIn (hd.heap_39 w.params) cdv qual = true)
    (hbind : ∀ x (s : Shared), BindsTo s (fnOf name qual params body₀ scope₀ dV kV doc pm an cdv ct) ⟨.ref x :: args, []⟩ (binds (.ref x))) (hloc : ∀ x, ∀ y ∈ binds (.ref x), scope.names.lookup y.1 = some .local)
    (h : ∀ x dx L' h₁ tk mean mg mb, Fr s.heap L' h₁ (fun y => (binds (.ref x)).reverse.lookup y) → News s.heap L' h₁ [(x, instObj C dx), (dx, dictOf [] 0)] → @LT.lt Nat _ dx x → (hd.heap_39 w.params).In s.heap → Top VW LS mean mg mb s.heap → Room n (dp + 2) (un + 4) →
      let env₉ := envOf qual scope L' f cdv
      let A₉ := mkA (dp + 2) (un + 4) gd (env₉ :: outer)
      wpAny (model PR w) A₉ (execs body env₉)
        (fun fl s' => (match fl with | .ret v => v | _ => .none) = .none ∧ Q (.ref x) s')
        (fun e s' => wpAny (model PR w) A₉ (leaving env₉ e) (fun _ s'' => E e s'') (fun e' s'' => E e' s'') s')
        { s with heap := h₁, toks := tk })
    (hco : scope.isCoroutine = false) (hgen : scope.isGenerator = false) (hk : scope.kind = .function)
    (hcell : ∀ x ∈ scope.names, x.2 ≠ .cell) : wpAny (model PR w) (mkA dp un gd outer) (call (.ref C) args) Q E s := by
  obtain rfl := hbo.symm
  obtain rfl := hso.symm
  obtain ⟨mean, mg, mb, T⟩ := X.T
  obtain ⟨hh, gg, dd, tt, os⟩ := s
  refine wpAny_call (make_core (makes_of X.X hm) (looks_findIn X.X hi) (fun self => bind_fn X.X self (beq_iff_eq.mp hf)) (.inl rfl) ?_)
  have k2 : ∀ b o, hh.get? b = some o → ((hh.push emptyDict).push (instObj C hh.objs.size)).get? b = some o := fun b o e => Heap.get?_push_of_some _ (Heap.get?_push_of_some _ e)
  have fin := codeAny_call_def (prog := PR) (w := w) (A := (mkA dp un gd outer).under (.builtin "type.__call__" ⟨.ref C :: args, []⟩)) (s := ⟨(hh.push emptyDict).push (instObj C hh.objs.size), gg, dd, tt, os⟩)
    (R := InitBack (hh.objs.size + 1) fun r s' => match r with | .ok (.ret v) => Q v s' | .ok _ => False | .error e => E e s')
    (fd := fnOf name qual params body scope dV kV doc pm an cdv ct) (body := body) (binds := binds (.ref (hh.objs.size + 1))) (args := ⟨.ref (hh.objs.size + 1) :: args, []⟩)
    (show dp + 1 < recursionLimit from by have := R.d; (first | lia | omega)) (k2 _ _ (X.X _ _ ho)) rfl (T.nolimit.keeps k2) (codeRec_of (X.X.keeps k2) hcd) rfl (hbind _ _) hcell (hloc _) (fun h₁ hns hk₁ => ?_) hco hgen hk
  · exact fin
  · have F : Fr hh ((hh.push emptyDict).push (instObj C hh.objs.size)).objs.size h₁ (fun y => (binds (.ref (hh.objs.size + 1))).reverse.lookup y) := ⟨hns, fun b o e => hk₁ b o (k2 b o e), by rw [Heap.size_push, Heap.size_push]; (first | lia | omega)⟩
    have none_at : ∀ a, hh.objs.size ≤ a → hh.get? a = none := fun a ha => by
      cases e : hh.get? a with
      | none => rfl
      | some o => exact absurd (Heap.lt_size e) (Nat.not_lt.mpr ha)
    have N : News hh ((hh.push emptyDict).push (instObj C hh.objs.size)).objs.size h₁ [(hh.objs.size + 1, instObj C hh.objs.size), (hh.objs.size, dictOf [] 0)] := by
      intro p hp
      rcases List.mem_cons.mp hp with rfl | hp
      · refine ⟨hk₁ _ _ (by heap_get), ?_, none_at _ (by show _ ≤ hh.objs.size + 1; (first | lia | omega))⟩
        rw [Heap.size_push, Heap.size_push]
        show @Ne Nat (hh.objs.size + 1) _; (first | lia | omega)
      · rw [List.mem_singleton.mp hp]
        refine ⟨hk₁ _ _ (by heap_get), ?_, none_at _ (Nat.le_refl _)⟩
        rw [Heap.size_push, Heap.size_push]
        show @Ne Nat hh.objs.size _; (first | lia | omega)
    have R' : Room n (dp + 2) (un + 4) := ⟨by have := R.d; (first | lia | omega), by have := R.u; (first | lia | omega)⟩
    refine wpAny_mono (h (hh.objs.size + 1) hh.objs.size _ h₁ _ mean mg mb F N (Nat.lt_succ_self _) X.X T R') (fun f s' z => ?_) fun _ _ z => z
    exact z
end

end EIS
section ExS
theorem exp_cost_spec {w : World} (x : Int) (t : Tok) (hx : Builtin.Int.intBits x ≤ 256) : Spec w 1 207 [.int x t] (fun _ => True) (PInt (50 * (((Builtin.Int.intBits x : Int) + 7).fdiv 8))) := by
  intro s Q E dp un gd outer hR hX hP hQ
  ktr_call [(Str.ofString "power", .int x t)] hR
  k_extra "my words"
  all_goals first | (k_extra "my back") | (dsimp only; k_extra "my back") | (trace_state; w_report)
  all_goals first | rfl | (k_extra "my fin") | trace_state
noncomputable abbrev PFresh : Heap → Heap → Value → Prop := fun h h' v => ∃ l o, v = .ref l ∧ h.get? l = none ∧ h'.get? l = some o
theorem retD {s : Shared} {Q : Value → Shared → Prop} {L l : Addr} {h : Heap} {m : Str → Option Value} {tk : Nat} {news : List (Addr × Obj)} {o : Obj} (hQ : ∀ v h' tk, Ext s.heap h' → PFresh s.heap h' v → Q v { s with heap := h', toks := tk }) (F : Fr s.heap L h m) (N : News s.heap L h news) (hm : (l, o) ∈ news) : Q (.ref l) { s with heap := h, toks := tk } :=
  hQ _ _ _ F.keep ⟨l, o, rfl, news_fresh N hm, (N _ hm).1⟩
theorem jump_places_spec {w : World} (t : Tok) : Spec w 1 186 [.bytes #[] t] (fun _ => True) (PFresh) := by
  intro s Q E dp un gd outer hR hX hP hQ
  ktr_call [(Str.ofString "code", .bytes #[] t)] hR
  k_extra "my auto"
  (try dsimp only)
  refine' retD (by assumption) (by assumption) (by assumption) ?m
  case m => k_mem

end ExS
section FpS
theorem hide_ext' (h : Heap) (wr : List Addr) : Ext (hideAll h wr) h := fun _ _ e => of_hideAll wr e
noncomputable abbrev en (w : World) (k : String) (t : Tok) (v : Value) : DictEntry := { hash := PyData.keyHash w.params (Str.ofString k), key := .str (Str.ofString k) t, val := v }
noncomputable abbrev frD (w : World) (V : Nat → Value) (K : Nat → Tok) (ST : Addr) (g : Int) (tg : Tok) (n : Nat) : Obj :=
  dictOf [en w "message" (K 0) (V 0), en w "code" (K 1) (V 1), en w "stack" (K 2) (.ref ST), en w "memory" (K 3) (V 3), en w "pc" (K 4) (V 4), en w "gas" (K 5) (.int g tg), en w "returned" (K 6) (V 6), en w "output" (K 7) (V 7), en w "jumps" (K 8) (V 8), en w "is_done" (K 9) (V 9), en w "word" (K 10) (V 10)] n
noncomputable def FrAt (w : World) (h : Heap) (FR D ST : Addr) (g : Int) (rs : List Int) : Prop :=
  ∃ V K tg n vs m, h.get? FR = some (instObj 357 D) ∧ h.get? D = some (frD w V K ST g tg n) ∧ h.get? ST = some (listOf (List.toArray vs) m) ∧ IntsAre vs rs.reverse
noncomputable def FSpec (w : World) (k : Nat) (f : Addr) (args : List Value) (FR D ST : Addr) (g : Int) (rs : List Int) (g' : Int) (rs' : List Int) (Post : Value → Prop) : Prop :=
  ∀ (s : Shared) (Q E : Value → Shared → Prop) (dp un : Nat) (gd : Option (List Code)) (outer : List Env), Room k dp un → Wd w (hideAll s.heap [FR, D, ST]) → FrAt w s.heap FR D ST g rs →
    (∀ v h' tk, Ext (hideAll s.heap [FR, D, ST]) h' → FrAt w h' FR D ST g' rs' → Post v → Q v { s with heap := h', toks := tk }) → wpAny (model PR w) (mkA dp un gd outer) (call (.ref f) args) Q E s
section
variable {w : World} {h h' : Heap} {FR D ST L : Addr} {m : Str → Option Value} {o1 o2 o3 : Obj}
theorem hide_fr3 (F : Fr h L h' m) (W : List Addr) : Fr (hideAll h W) L h' m := ⟨F.ns, fun b o e => F.keep b o (hide_ext' _ _ b o e), by rw [hideAll_size]; exact F.above⟩
theorem hide_news3 (F : Fr h L h' m) (e1 : h.get? FR = some o1) (e2 : h.get? D = some o2) (e3 : h.get? ST = some o3) : News (hideAll h [FR, D, ST]) L h' [(FR, o1), (D, o2), (ST, o3)] := by
  have one : ∀ b o, h.get? b = some o → b ∈ [FR, D, ST] → h'.get? b = some o ∧ b ≠ L ∧ (hideAll h [FR, D, ST]).get? b = none := fun b o e hm =>
    ⟨F.keep _ _ e, Nat.ne_of_lt (Nat.lt_of_lt_of_le (Heap.lt_size e) F.above), hideAll_none _ hm⟩
  intro p hp
  simp only [List.mem_cons, List.not_mem_nil, or_false] at hp
  rcases hp with rfl | rfl | rfl
  · exact one _ _ e1 (.head _)
  · exact one _ _ e2 (.tail _ (.head _))
  · exact one _ _ e3 (.tail _ (.tail _ (.head _)))
end
section
variable {w : World} {s : Shared} {Q E : Value → Shared → Prop} {k n dp un : Nat} {gd : Option (List Code)} {outer : List Env} {f : Addr} {args : List Value} {FR D ST : Addr} {g₀ g' : Int} {rs rs' : List Int}
  {g : Heap} {L : Addr} {m : Str → Option Value} {news : List (Addr × Obj)} {mean : ExcName → Option Value} {mg mb : Str → Option Value} {V : Nat → Value} {K : Nat → Tok} {tg : Tok} {n1 n2 : Nat} {vs : List Value}
theorem FSpec.use {Post : Value → Prop} (S : FSpec w k f args FR D ST g₀ rs g' rs' Post) (R : Room n dp un) (F : Fr g L s.heap m) (N : News g L s.heap news) (X : (hd.heap_39 w.params).In g) (T : Top VW LS mean mg mb g)
    (hF : (FR, instObj 357 D) ∈ news) (hD : (D, frD w V K ST g₀ tg n1) ∈ news) (hS : (ST, listOf vs.toArray n2) ∈ news) (hi : IntsAre vs rs.reverse) (hk : k ≤ n)
    (h : ∀ v h' tk V' K' tg' n1' n2' vs', Fr g L h' m → News g L h' [(FR, instObj 357 D), (D, frD w V' K' ST g' tg' n1'), (ST, listOf (List.toArray vs') n2')] → IntsAre vs' rs'.reverse → Post v → Q v { s with heap := h', toks := tk }) :
    wpAny (model PR w) (mkA dp un gd outer) (call (.ref f) args) Q E s := by
  have N1 := N _ hF
  have N2 := N _ hD
  have N3 := N _ hS
  have k0 : Ext g (hideAll s.heap [FR, D, ST]) := fun b o e => by
    refine hideAll_get _ (F.keep b o e) fun hm => ?_
    simp only [List.mem_cons, List.not_mem_nil, or_false] at hm
    rcases hm with rfl | rfl | rfl
    · rw [N1.2.2] at e; cases e
    · rw [N2.2.2] at e; cases e
    · rw [N3.2.2] at e; cases e
  refine S s Q E dp un gd outer (R.le hk) ⟨X.keeps k0, _, _, _, T.keeps k0⟩ ⟨V, K, tg, n1, vs, n2, N1.1, N2.1, N3.1, hi⟩ fun v h' tk hE hA9 hP => ?_
  refine nameP ?_
  intro GG
  obtain ⟨V', K', tg', n1', vs', n2', a1, a2, a3, a4⟩ := hA9
  unfold GG
  clear GG
  have keepL : ∀ o, s.heap.get? L = some o → h'.get? L = some o := fun o e => hE L o (hideAll_get _ e (by
    simp only [List.mem_cons, List.not_mem_nil, or_false]
    rintro (q | q | q)
    · exact N1.2.1 q.symm
    · exact N2.2.1 q.symm
    · exact N3.2.1 q.symm))
  refine h v h' tk V' K' tg' n1' n2' vs' ⟨F.ns.at' (@keepL), fun b o e => hE b o (k0 b o e), F.above⟩ (fun p hp => ?_) a4 hP
  simp only [List.mem_cons, List.not_mem_nil, or_false] at hp
  rcases hp with rfl | rfl | rfl
  · exact ⟨a1, N1.2⟩
  · exact ⟨a2, N2.2⟩
  · exact ⟨a3, N3.2⟩
end
section
variable {w : World} {s : Shared} {Q : Value → Shared → Prop} {FR D ST L : Addr} {h : Heap} {m : Str → Option Value} {v : Value} {tk : Nat} {news : List (Addr × Obj)} {g' : Int} {rs' : List Int} {Post : Value → Prop} {V : Nat → Value} {K : Nat → Tok} {tg : Tok} {n1 n2 : Nat} {vs : List Value}
theorem retF (hQ : ∀ v h' tk, Ext (hideAll s.heap [FR, D, ST]) h' → FrAt w h' FR D ST g' rs' → Post v → Q v { s with heap := h', toks := tk }) (F : Fr (hideAll s.heap [FR, D, ST]) L h m) (N : News (hideAll s.heap [FR, D, ST]) L h news)
    (hF : (FR, instObj 357 D) ∈ news) (hD : (D, frD w V K ST g' tg n1) ∈ news) (hS : (ST, listOf vs.toArray n2) ∈ news) (hi : IntsAre vs rs'.reverse) (hp : Post v) : Q v { s with heap := h, toks := tk } :=
  hQ v h tk F.keep ⟨V, K, tg, n1, vs, n2, (N _ hF).1, (N _ hD).1, (N _ hS).1, hi⟩ hp
end
theorem fr_ne {w : World} {h : Heap} {FR D ST : Addr} {V : Nat → Value} {K : Nat → Tok} {g : Int} {tg : Tok} {n m : Nat} {vs : List Value} (hF : h.get? FR = some (instObj 357 D)) (hD : h.get? D = some (frD w V K ST g tg n)) (hS : h.get? ST = some (listOf vs.toArray m)) :
    @Ne Nat FR D ∧ @Ne Nat FR ST ∧ @Ne Nat D ST := by
  refine ⟨fun e => ?_, fun e => ?_, fun e => ?_⟩
  · have e' : FR = D := e
    rw [e', hD] at hF
    have e2 := congrArg (fun o => o.map Obj.cls) hF
    simp at e2
  · have e' : FR = ST := e
    rw [e', hS] at hF
    have e2 := congrArg (fun o => o.map Obj.cls) hF
    simp at e2
  · have e' : D = ST := e
    rw [e', hS] at hD
    have e2 := congrArg (fun o => o.map Obj.cls) hD
    simp at e2
section
variable {w : World} {s : Shared} {Q E : Value → Shared → Prop} {k n dp un : Nat} {gd : Option (List Code)} {outer : List Env} {f : Addr} {args : List Value} {FR D ST : Addr} {g₀ g' : Int} {rs rs' : List Int}
  {g : Heap} {L : Addr} {m : Str → Option Value} {news : List (Addr × Obj)} {mean : ExcName → Option Value} {mg mb : Str → Option Value} {V : Nat → Value} {K : Nat → Tok} {tg : Tok} {n1 n2 : Nat} {vs : List Value}
  {name qual : Str} {params : Arguments} {body₀ body : List Stmt} {scope₀ scope : Scope} {dV kV doc pm cdv ct oc : Value} {an od : Option Addr} {osl : Array (Option Value)} {binds : List (Str × Value)}
theorem FSpec.useP {x : Int} (S : FSpec w k f args FR D ST g₀ rs g' rs' (fun v => ∃ t, v = .int x t)) (R : Room n dp un) (F : Fr g L s.heap m) (N : News g L s.heap news) (X : (hd.heap_39 w.params).In g) (T : Top VW LS mean mg mb g)
    (hF : (FR, instObj 357 D) ∈ news) (hD : (D, frD w V K ST g₀ tg n1) ∈ news) (hS : (ST, listOf vs.toArray n2) ∈ news) (hi : IntsAre vs rs.reverse) (hk : k ≤ n)
    (h : ∀ t h' tk V' K' tg' n1' n2' vs', let nx : List (Addr × Obj) := [(FR, instObj 357 D), (D, frD w V' K' ST g' tg' n1'), (ST, listOf (List.toArray vs') n2')]; Fr g L h' m → News g L h' nx → IntsAre vs' rs'.reverse → Q (.int x t) { s with heap := h', toks := tk }) :
    wpAny (model PR w) (mkA dp un gd outer) (call (.ref f) args) Q E s :=
  FSpec.use S R F N X T hF hD hS hi hk fun v h' tk V' K' tg' n1' n2' vs' F' N' i P9 => by obtain ⟨t, e⟩ := P9; subst e; exact h t h' tk V' K' tg' n1' n2' vs' F' N' i
theorem FSpec.useN (S : FSpec w k f args FR D ST g₀ rs g' rs' (fun v => v = .none)) (R : Room n dp un) (F : Fr g L s.heap m) (N : News g L s.heap news) (X : (hd.heap_39 w.params).In g) (T : Top VW LS mean mg mb g)
    (hF : (FR, instObj 357 D) ∈ news) (hD : (D, frD w V K ST g₀ tg n1) ∈ news) (hS : (ST, listOf vs.toArray n2) ∈ news) (hi : IntsAre vs rs.reverse) (hk : k ≤ n)
    (h : ∀ h' tk V' K' tg' n1' n2' vs', let nx : List (Addr × Obj) := [(FR, instObj 357 D), (D, frD w V' K' ST g' tg' n1'), (ST, listOf (List.toArray vs') n2')]; Fr g L h' m → News g L h' nx → IntsAre vs' rs'.reverse → Q .none { s with heap := h', toks := tk }) :
    wpAny (model PR w) (mkA dp un gd outer) (call (.ref f) args) Q E s :=
  FSpec.use S R F N X T hF hD hS hi hk fun v h' tk V' K' tg' n1' n2' vs' F' N' i e => by subst e; exact h h' tk V' K' tg' n1' n2' vs' F' N' i
theorem enterF {Post : Value → Prop} (ho : (hd.heap_39 w.params).lookup f = some ⟨oc, od, .func (fnOf name qual params body₀ scope₀ dV kV doc pm an cdv ct), osl⟩) (hbo : body₀ = body) (hso : scope₀ = scope) (hcd : codeIn (hd.heap_39 w.params) cdv qual = true)
    (hbind : ∀ s, BindsTo s (fnOf name qual params body₀ scope₀ dV kV doc pm an cdv ct) ⟨args, []⟩ binds) (hloc : (binds.all fun y => decide (scope.names.lookup y.1 = some .local)) = true)
    (h : ∀ (s : Shared) (Q E : Value → Shared → Prop) (dp un : Nat) (gd : Option (List Code)) (outer : List Env) V K tg n1 vs n2, IntsAre vs rs.reverse → (∀ v h' tk, Ext (hideAll s.heap [FR, D, ST]) h' → FrAt w h' FR D ST g' rs' → Post v → Q v { s with heap := h', toks := tk }) →
      ∀ L' h₁ tk mean mg mb, let m₀ : Str → Option Value := fun y => binds.reverse.lookup y
        let g₀h := hideAll s.heap [FR, D, ST]
        let nx : List (Addr × Obj) := [(FR, instObj 357 D), (D, frD w V K ST g₀ tg n1), (ST, listOf (List.toArray vs) n2)]
        Fr g₀h L' h₁ m₀ → News g₀h L' h₁ nx → (hd.heap_39 w.params).In g₀h → Top VW LS mean mg mb g₀h → Room n (dp + 1) (un + 3) →
        let env := envOf qual scope L' f cdv
        let A := mkA (dp + 1) (un + 3) gd (env :: outer)
        wpAny (model PR w) A (execs body env) (fun fl s' => Q (match fl with | .ret v => v | _ => .none) s')
          (fun e s' => wpAny (model PR w) A (leaving env e) (fun _ s'' => E e s'') (fun e' s'' => E e' s'') s') { s with heap := h₁, toks := tk })
    (hco : scope.isCoroutine = false) (hgen : scope.isGenerator = false) (hk : scope.kind = .function)
    (hcell : (scope.names.all fun x => decide (x.2 ≠ .cell)) = true) : FSpec w (n + 1) f args FR D ST g₀ rs g' rs' Post := by
  rintro s Q E dp un gd outer hR hX ⟨V, K, tg, n1, vs, n2, hF, hD, hS, hI⟩ hQ
  have hX0 : Wd w s.heap := hX.keeps (hide_ext' _ _)
  obtain ⟨X2, mean2, mg2, mb2, T2⟩ := hX
  exact enter hR hX0 ho hbo hso hcd (hbind s) hloc (fun L' h₁ tk mean mg mb F N X T R => h s Q E dp un gd outer V K tg n1 vs n2 hI hQ L' h₁ tk mean2 mg2 mb2 (hide_fr3 F [FR, D, ST]) (hide_news3 F hF hD hS) X2 T2 R) hco hgen hk hcell
end
theorem le1024 {n : Nat} (h : n ≤ 256) : n ≤ 1024 := Nat.le_trans h (by decide)
theorem reg36 : True := by
  k_with "call builtin:list.pop" => ((k_here; k_dflt (refine' kpa_pop ?F ?N ?U ?i ?l ?z ?_; (case F => k_asm); (case N => k_asm); (case U => k_upd); (case i => with_reducible assumption); (case l => with_reducible assumption); (case z => (rw [sizeLine_eq]; k_extra "my om")); k_whole); (intro h' t' F' N' hI')))
  trivial
theorem last_x (l : List Int) (x : Int) : (l ++ [x]).getLastD 0 = x := by simp
theorem drop_x (l : List Int) (x : Int) : (l ++ [x]).dropLast = l := by simp
theorem pop_spec {w : World} (FR D ST : Addr) (g x : Int) (rs : List Int) (hlen : rs.length ≤ 900) : FSpec w 1 340 [.ref FR] FR D ST g (x :: rs) g rs (fun v => ∃ t, v = .int x t) := by
  rintro s Q E dp un gd outer hR hX ⟨V, K, tg, n1, vs, n2, hF, hD, hS, hI⟩ hQ
  have hX0 : Wd w s.heap := hX.keeps (hide_ext' _ _)
  obtain ⟨X2, mean2, mg2, mb2, T2⟩ := hX
  obtain ⟨q1, q2, q3⟩ := fr_ne hF hD hS
  have hvl := hI.length
  rw [List.length_reverse] at hvl
  simp only [List.length_cons] at hvl
  have hpos : 0 < vs.length := by omega
  rw [List.reverse_cons] at hI
  ktr_call [(Str.ofString "self", .ref FR)] hR
  rename Fr _ _ _ _ => F
  rename News _ _ _ _ => N
  rename Top _ _ _ _ _ _ => T
  rename Frag.In _ s.heap => X
  have F2 := hide_fr3 F [FR, D, ST]
  have N2 := hide_news3 F hF hD hS
  clear F N X T
  dsimp only [frD, en] at N2
  k_extra "my words"
  all_goals first | (exfalso; have hc := (by assumption : decide (rs.reverse ++ [x] = []) = true); simp at hc; done) | skip
  rename IntsAre vs.dropLast _ => hI9
  rw [drop_x] at hI9
  (try dsimp only)
  rw [last_x]
  refine' retF (s := s) (Q := Q) hQ (by assumption) ?N ?m1 ?m2 ?m3 ?hi ?po
  case N => assumption
  case m1 => k_mem
  case m2 => k_mem
  case m3 => k_mem
  case hi => exact hI9
  case po => exact ⟨_, rfl⟩
theorem put_gas {w : World} (V : Nat → Value) (K : Nat → Tok) (ST : Addr) (g : Int) (tg : Tok) (n : Nat) (h : Int) (key v : Value) :
    (putL (Str.ofString "gas") h key v [en w "message" (K 0) (V 0), en w "code" (K 1) (V 1), en w "stack" (K 2) (.ref ST), en w "memory" (K 3) (V 3), en w "pc" (K 4) (V 4), en w "gas" (K 5) (.int g tg), en w "returned" (K 6) (V 6), en w "output" (K 7) (V 7), en w "jumps" (K 8) (V 8), en w "is_done" (K 9) (V 9), en w "word" (K 10) (V 10)], putN (Str.ofString "gas") [en w "message" (K 0) (V 0), en w "code" (K 1) (V 1), en w "stack" (K 2) (.ref ST), en w "memory" (K 3) (V 3), en w "pc" (K 4) (V 4), en w "gas" (K 5) (.int g tg), en w "returned" (K 6) (V 6), en w "output" (K 7) (V 7), en w "jumps" (K 8) (V 8), en w "is_done" (K 9) (V 9), en w "word" (K 10) (V 10)] n)
      = ([en w "message" (K 0) (V 0), en w "code" (K 1) (V 1), en w "stack" (K 2) (.ref ST), en w "memory" (K 3) (V 3), en w "pc" (K 4) (V 4), en w "gas" (K 5) v, en w "returned" (K 6) (V 6), en w "output" (K 7) (V 7), en w "jumps" (K 8) (V 8), en w "is_done" (K 9) (V 9), en w "word" (K 10) (V 10)], n) := by rfl
theorem reg37 : True := by
  k_with "setAttr ref" => ((k_here; k_dflt (refine' set_dict ?k1 ?k2 ?k3 ?k4 ?k5 ?k6 ?k7 ?k8 ?k9 ?k10 ?k11 ?k12 ?k13 ?_; (case k1 => k_asm); (case k2 => k_asm); (case k3 => k_asm); (case k4 => k_inst); (case k5 => exact rfl); (case k6 => k_is); (case k7 => k_is); (case k8 => k_is); (case k9 => k_is); (case k10 => k_get); (case k11 => exact put_gas _ _ _ _ _ _ _ _ _); (case k12 => k_upd); (case k13 => exact Nat.le_of_ble_eq_true rfl); k_whole; intro h' F' N')))
  trivial
theorem push_spec {w : World} (FR D ST : Addr) (g x : Int) (t : Tok) (rs : List Int) (hlen : rs.length ≤ 900) : FSpec w 1 333 [.ref FR, .int x t] FR D ST g rs g (x :: rs) (fun v => v = .none) := by
  rintro s Q E dp un gd outer hR hX ⟨V, K, tg, n1, vs, n2, hF, hD, hS, hI⟩ hQ
  have hX0 : Wd w s.heap := hX.keeps (hide_ext' _ _)
  obtain ⟨X2, mean2, mg2, mb2, T2⟩ := hX
  obtain ⟨q1, q2, q3⟩ := fr_ne hF hD hS
  have hvl := hI.length
  rw [List.length_reverse] at hvl
  ktr_call [(Str.ofString "self", .ref FR), (Str.ofString "word", .int x t)] hR
  rename Fr _ _ _ _ => F
  rename News _ _ _ _ => N
  rename Top _ _ _ _ _ _ => T
  rename Frag.In _ s.heap => X
  have F2 := hide_fr3 F [FR, D, ST]
  have N2 := hide_news3 F hF hD hS
  clear F N X T
  dsimp only [frD, en] at N2
  k_extra "my words"
  refine' retF (s := s) (Q := Q) hQ (by assumption) ?N ?m1 ?m2 ?m3 ?hi ?po
  case N => assumption
  case m1 => k_mem
  case m2 => k_mem
  case m3 => k_mem
  case hi => (rw [List.reverse_cons]; simp only [List.concat_eq_append]; exact hI.append (.cons _ _ .nil))
  case po => rfl
theorem pay_spec {w : World} (FR D ST : Addr) (g x : Int) (t : Tok) (rs : List Int) (hx : x ≤ g) : FSpec w 1 326 [.ref FR, .int x t] FR D ST g rs (g - x) rs (fun v => v = .none) := by
  rintro s Q E dp un gd outer hR hX ⟨V, K, tg, n1, vs, n2, hF, hD, hS, hI⟩ hQ
  have hX0 : Wd w s.heap := hX.keeps (hide_ext' _ _)
  obtain ⟨X2, mean2, mg2, mb2, T2⟩ := hX
  obtain ⟨q1, q2, q3⟩ := fr_ne hF hD hS
  ktr_call [(Str.ofString "self", .ref FR), (Str.ofString "amount", .int x t)] hR
  rename Fr _ _ _ _ => F
  rename News _ _ _ _ => N
  rename Top _ _ _ _ _ _ => T
  rename Frag.In _ s.heap => X
  have F2 := hide_fr3 F [FR, D, ST]
  have N2 := hide_news3 F hF hD hS
  clear F N X T
  dsimp only [frD, en] at N2
  k_extra "my words"
  refine' retF (s := s) (Q := Q) hQ (by assumption) ?N ?m1 ?m2 ?m3 ?hi ?po
  case N => assumption
  case m1 => k_mem
  case m2 => k_mem
  case m3 => k_mem
  case hi => exact hI
  case po => rfl
section
variable {w : World} {A : Around} {E : Value → Shared → Prop} {Q : Value × List Value → Shared → Prop} {s : Shared} {pl : Sem Bool} {FR D ST : Addr} {g₀ : Int} {g : Heap} {L : Addr} {m : Str → Option Value} {news : List (Addr × Obj)} {V : Nat → Value} {K : Nat → Tok} {tg : Tok} {n1 : Nat}
theorem meth_pop (F : Fr g L s.heap m) (X : (hd.heap_39 w.params).In g) (N : News g L s.heap news) (hF : (FR, instObj 357 D) ∈ news) (hD : (D, frD w V K ST g₀ tg n1) ∈ news) (h : Q (.ref 340, [.ref FR]) s) : wpAny (model PR w) A (getMethod (.ref FR) "pop" pl) Q E s := by
  refine' method_inst F X (InstAt.of_news N hF hD) ?k4 ?k5 ?k6 ?k7 h
  case k4 => k_is
  case k5 => k_is
  case k6 => k_is
  case k7 => k_get
theorem meth_push (F : Fr g L s.heap m) (X : (hd.heap_39 w.params).In g) (N : News g L s.heap news) (hF : (FR, instObj 357 D) ∈ news) (hD : (D, frD w V K ST g₀ tg n1) ∈ news) (h : Q (.ref 333, [.ref FR]) s) : wpAny (model PR w) A (getMethod (.ref FR) "push" pl) Q E s := by
  refine' method_inst F X (InstAt.of_news N hF hD) ?k4 ?k5 ?k6 ?k7 h
  case k4 => k_is
  case k5 => k_is
  case k6 => k_is
  case k7 => k_get
theorem meth_pay (F : Fr g L s.heap m) (X : (hd.heap_39 w.params).In g) (N : News g L s.heap news) (hF : (FR, instObj 357 D) ∈ news) (hD : (D, frD w V K ST g₀ tg n1) ∈ news) (h : Q (.ref 326, [.ref FR]) s) : wpAny (model PR w) A (getMethod (.ref FR) "pay" pl) Q E s := by
  refine' method_inst F X (InstAt.of_news N hF hD) ?k4 ?k5 ?k6 ?k7 h
  case k4 => k_is
  case k5 => k_is
  case k6 => k_is
  case k7 => k_get
end

theorem reg38 : True := by
  k_with "getMethod ref" => ((k_here; (fail_if_success (fail_if_success (with_reducible show wpAny _ _ (getMethod (Value.ref _) "pay" _) _ _ _))); k_dflt (refine' meth_pay ?F ?X ?N ?hF ?hD ?_; (case F => k_asm); (case X => k_asm); (case N => k_asm); (case hF => k_mem); (case hD => k_mem); k_whole)))
  k_with "getMethod ref" => ((k_here; (fail_if_success (fail_if_success (with_reducible show wpAny _ _ (getMethod (Value.ref _) "push" _) _ _ _))); k_dflt (refine' meth_push ?F ?X ?N ?hF ?hD ?_; (case F => k_asm); (case X => k_asm); (case N => k_asm); (case hF => k_mem); (case hD => k_mem); k_whole)))
  k_with "getMethod ref" => ((k_here; (fail_if_success (fail_if_success (with_reducible show wpAny _ _ (getMethod (Value.ref _) "pop" _) _ _ _))); k_dflt (refine' meth_pop ?F ?X ?N ?hF ?hD ?_; (case F => k_asm); (case X => k_asm); (case N => k_asm); (case hF => k_mem); (case hD => k_mem); k_whole)))
  trivial
end FpS
section Op1S
theorem reg39 : True := by
  k_with "my opA" => (((have bbA := bits_of_word ha0 ha1); (have bbB := bits_of_word hb0 hb1); (have bA' := le1024 bbA); (have bB' := le1024 bbB); (have lgB := log_of_bits bbB (by decide)); (have lgS := log_of_sgn hb0 hb1)))
  k_with "my opB" => (((refine' enterF (binds := [(Str.ofString "machine", .none), (Str.ofString "frame", .ref FR)]) ?ho ?hB ?hS ?hcd ?hb ?hl ?_ ?h1 ?h2 ?h3 ?h4); (k_extra "my enterF"); (k_extra "my words"); (exact retF (s := s) (Q := Q) hQ (by assumption) (by assumption) (by k_mem) (by k_mem) (by k_mem) (by assumption) rfl)))
  k_with "my farg" => (first | assumption | k_extra "my om" | exact Nat.le_of_ble_eq_true rfl)
  k_with "call ref" => ((k_here; (fail_if_success (fail_if_success (with_reducible show wpAny _ _ (call (Value.ref 340) _) _ _ _))); k_dflt (refine' FSpec.useP (pop_spec _ _ _ _ _ _ ?s0) ?kR ?kF ?kN ?kX ?kT ?k1 ?k2 ?k3 ?k4 ?kk ?_; k_extra "my ctx"; (case k1 => k_mem); (case k2 => k_mem); (case k3 => k_mem); (case k4 => with_reducible assumption); (case s0 => k_extra "my farg"); (case kk => decide); k_whole); intro t' h' tk' V' K' tg' n1' n2' vs' nx' F' N' hI'))
  k_with "call ref" => ((k_here; (fail_if_success (fail_if_success (with_reducible show wpAny _ _ (call (Value.ref 333) _) _ _ _))); k_dflt (refine' FSpec.useN (push_spec _ _ _ _ _ _ _ ?s0) ?kR ?kF ?kN ?kX ?kT ?k1 ?k2 ?k3 ?k4 ?kk ?_; k_extra "my ctx"; (case k1 => k_mem); (case k2 => k_mem); (case k3 => k_mem); (case k4 => with_reducible assumption); (case s0 => k_extra "my farg"); (case kk => decide); k_whole); intro h' tk' V' K' tg' n1' n2' vs' nx' F' N' hI'))
  k_with "call ref" => ((k_here; (fail_if_success (fail_if_success (with_reducible show wpAny _ _ (call (Value.ref 326) _) _ _ _))); k_dflt (refine' FSpec.useN (pay_spec _ _ _ _ _ _ _ ?s0) ?kR ?kF ?kN ?kX ?kT ?k1 ?k2 ?k3 ?k4 ?kk ?_; k_extra "my ctx"; (case k1 => k_mem); (case k2 => k_mem); (case k3 => k_mem); (case k4 => with_reducible assumption); (case s0 => k_extra "my farg"); (case kk => decide); k_whole); intro h' tk' V' K' tg' n1' n2' vs' nx' F' N' hI'))
  k_with "call ref" => ((k_here; (fail_if_success (fail_if_success (with_reducible show wpAny _ _ (call (Value.ref 28) _) _ _ _))); k_dflt (refine' Spec.useI (led_spec _ _) ?kR ?kF ?kN ?kX ?kT ?kp ?kk ?_; k_extra "my std"; (case kk => decide); k_whole); intro t' h' tk' F' N'; (try k_sweep)))
  trivial
theorem op_add_spec {w : World} (FR D ST : Addr) (g a b : Int) : FSpec w 3 375 [.none, .ref FR] FR D ST g [a, b, 5] g [(a + b).fmod WORD, 5] (fun v => v = .none) := by
  k_extra "my opB"
theorem reg40 : True := by
  k_with "my arg" => (first | with_reducible assumption | k_extra "my om" | assumption)
  trivial
theorem bits_of_word {x : Int} (h0 : 0 ≤ x) (h1 : x < WORD) : Builtin.Int.intBits x ≤ 256 := by
  have e : x.fmod WORD = x := by rw [fmodW]; exact Int.emod_eq_of_lt h0 h1
  rw [← e]; exact intBits_mod _
theorem log_of_bits {x : Int} {n : Nat} (h : Builtin.Int.intBits x ≤ n) (hn : n ≤ 2000) : x.natAbs.log2 < 9000 := by
  have h1 := intBits_le_iff.mp h
  by_cases hz : x.natAbs = 0
  · rw [hz]; decide
  · have := (Nat.log2_lt hz).mpr h1
    (first | lia | omega)
theorem log_of_sgn {x : Int} (h0 : 0 ≤ x) (h1 : x < WORD) : (absI (withSign x)).natAbs.log2 < 9000 := by
  refine log_of_bits (n := 256) ?_ (by (first | lia | omega))
  rw [intBits_le_iff]
  have e : (2 ^ 256 : Nat) = WORD.toNat := by decide +kernel
  rw [e]
  unfold absI withSign
  simp only [WORD, HALF] at *
  repeat' split
  all_goals (first | lia | omega)
theorem reg41 : True := by
  k_with "call ref" => ((k_here; (fail_if_success (fail_if_success (with_reducible show wpAny _ _ (call (Value.ref 35) _) _ _ _))); k_dflt (refine' Spec.useI (with_sign_spec _ _) ?kR ?kF ?kN ?kX ?kT ?kp ?kk ?_; k_extra "my std"; (case kk => decide); k_whole); intro t' h' tk' F' N'; (try k_sweep)))
  k_with "call ref" => ((k_here; (fail_if_success (fail_if_success (with_reducible show wpAny _ _ (call (Value.ref 63) _) _ _ _))); k_dflt (refine' Spec.useI (quotient_spec _ _ _ _ ?s0) ?kR ?kF ?kN ?kX ?kT ?kp ?kk ?_; k_extra "my std"; (case s0 => k_extra "my arg"); (case kk => decide); k_whole); intro t' h' tk' F' N'; (try k_sweep)))
  k_with "call ref" => ((k_here; (fail_if_success (fail_if_success (with_reducible show wpAny _ _ (call (Value.ref 70) _) _ _ _))); k_dflt (refine' Spec.useI (rest_spec _ _ _ _) ?kR ?kF ?kN ?kX ?kT ?kp ?kk ?_; k_extra "my std"; (case kk => decide); k_whole); intro t' h' tk' F' N'; (try k_sweep)))
  k_with "call ref" => ((k_here; (fail_if_success (fail_if_success (with_reducible show wpAny _ _ (call (Value.ref 77) _) _ _ _))); k_dflt (refine' Spec.useI (signed_quotient_spec _ _ _ _ ?s0) ?kR ?kF ?kN ?kX ?kT ?kp ?kk ?_; k_extra "my std"; (case s0 => k_extra "my arg"); (case kk => decide); k_whole); intro t' h' tk' F' N'; (try k_sweep)))
  k_with "call ref" => ((k_here; (fail_if_success (fail_if_success (with_reducible show wpAny _ _ (call (Value.ref 84) _) _ _ _))); k_dflt (refine' Spec.useI (signed_rest_spec _ _ _ _) ?kR ?kF ?kN ?kX ?kT ?kp ?kk ?_; k_extra "my std"; (case kk => decide); k_whole); intro t' h' tk' F' N'; (try k_sweep)))
  k_with "call ref" => ((k_here; (fail_if_success (fail_if_success (with_reducible show wpAny _ _ (call (Value.ref 98) _) _ _ _))); k_dflt (refine' Spec.useI (sum_mod_spec _ _ _ _ _ _) ?kR ?kF ?kN ?kX ?kT ?kp ?kk ?_; k_extra "my std"; (case kk => decide); k_whole); intro t' h' tk' F' N'; (try k_sweep)))
  k_with "call ref" => ((k_here; (fail_if_success (fail_if_success (with_reducible show wpAny _ _ (call (Value.ref 105) _) _ _ _))); k_dflt (refine' Spec.useI (product_mod_spec _ _ _ _ _ _ ?s0 ?s1) ?kR ?kF ?kN ?kX ?kT ?kp ?kk ?_; k_extra "my std"; (case s0 => k_extra "my arg"); (case s1 => k_extra "my arg"); (case kk => decide); k_whole); intro t' h' tk' F' N'; (try k_sweep)))
  k_with "call ref" => ((k_here; (fail_if_success (fail_if_success (with_reducible show wpAny _ _ (call (Value.ref 91) _) _ _ _))); k_dflt (refine' Spec.useI (power_spec _ _ _ _ ?s0 ?s1) ?kR ?kF ?kN ?kX ?kT ?kp ?kk ?_; k_extra "my std"; (case s0 => k_extra "my arg"); (case s1 => k_extra "my arg"); (case kk => decide); k_whole); intro t' h' tk' F' N'; (try k_sweep)))
  k_with "call ref" => ((k_here; (fail_if_success (fail_if_success (with_reducible show wpAny _ _ (call (Value.ref 140) _) _ _ _))); k_dflt (refine' Spec.useI (widened_spec _ _ _ _ ?s0) ?kR ?kF ?kN ?kX ?kT ?kp ?kk ?_; k_extra "my std"; (case s0 => k_extra "my arg"); (case kk => decide); k_whole); intro t' h' tk' F' N'; (try k_sweep)))
  k_with "call ref" => ((k_here; (fail_if_success (fail_if_success (with_reducible show wpAny _ _ (call (Value.ref 112) _) _ _ _))); k_dflt (refine' Spec.useI (octet_at_spec _ _ _ _ ?s0) ?kR ?kF ?kN ?kX ?kT ?kp ?kk ?_; k_extra "my std"; (case s0 => k_extra "my arg"); (case kk => decide); k_whole); intro t' h' tk' F' N'; (try k_sweep)))
  k_with "call ref" => ((k_here; (fail_if_success (fail_if_success (with_reducible show wpAny _ _ (call (Value.ref 119) _) _ _ _))); k_dflt (refine' Spec.useI (shifted_left_spec _ _ _ _ ?s0 ?s1) ?kR ?kF ?kN ?kX ?kT ?kp ?kk ?_; k_extra "my std"; (case s0 => k_extra "my arg"); (case s1 => k_extra "my arg"); (case kk => decide); k_whole); intro t' h' tk' F' N'; (try k_sweep)))
  k_with "call ref" => ((k_here; (fail_if_success (fail_if_success (with_reducible show wpAny _ _ (call (Value.ref 126) _) _ _ _))); k_dflt (refine' Spec.useI (shifted_right_spec _ _ _ _ ?s0) ?kR ?kF ?kN ?kX ?kT ?kp ?kk ?_; k_extra "my std"; (case s0 => k_extra "my arg"); (case kk => decide); k_whole); intro t' h' tk' F' N'; (try k_sweep)))
  k_with "call ref" => ((k_here; (fail_if_success (fail_if_success (with_reducible show wpAny _ _ (call (Value.ref 133) _) _ _ _))); k_dflt (refine' Spec.useI (shifted_signed_spec _ _ _ _ ?s0) ?kR ?kF ?kN ?kX ?kT ?kp ?kk ?_; k_extra "my std"; (case s0 => k_extra "my arg"); (case kk => decide); k_whole); intro t' h' tk' F' N'; (try k_sweep)))
  trivial
theorem op_mul_spec {w : World} (FR D ST : Addr) (g a b : Int) (ha0 : 0 ≤ a) (ha1 : a < WORD) (hb0 : 0 ≤ b) (hb1 : b < WORD) : FSpec w 5 382 [.none, .ref FR] FR D ST g [a, b, 5] g [(a * b).fmod WORD, 5] (fun v => v = .none) := by
  k_extra "my opA"
  k_extra "my opB"
theorem op_sub_spec {w : World} (FR D ST : Addr) (g a b : Int) (ha0 : 0 ≤ a) (ha1 : a < WORD) (hb0 : 0 ≤ b) (hb1 : b < WORD) : FSpec w 5 389 [.none, .ref FR] FR D ST g [a, b, 5] g [(a - b).fmod WORD, 5] (fun v => v = .none) := by
  k_extra "my opA"
  k_extra "my opB"
theorem op_div_spec {w : World} (FR D ST : Addr) (g a b : Int) (ha0 : 0 ≤ a) (ha1 : a < WORD) (hb0 : 0 ≤ b) (hb1 : b < WORD) : FSpec w 5 396 [.none, .ref FR] FR D ST g [a, b, 5] g [(if b = 0 then 0 else a.fdiv b), 5] (fun v => v = .none) := by
  k_extra "my opA"
  k_extra "my opB"
theorem op_sdiv_spec {w : World} (FR D ST : Addr) (g a b : Int) (ha0 : 0 ≤ a) (ha1 : a < WORD) (hb0 : 0 ≤ b) (hb1 : b < WORD) : FSpec w 5 403 [.none, .ref FR] FR D ST g [a, b, 5] g [(sgnQuot a b), 5] (fun v => v = .none) := by
  k_extra "my opA"
  k_extra "my opB"
theorem op_mod_spec {w : World} (FR D ST : Addr) (g a b : Int) (ha0 : 0 ≤ a) (ha1 : a < WORD) (hb0 : 0 ≤ b) (hb1 : b < WORD) : FSpec w 5 410 [.none, .ref FR] FR D ST g [a, b, 5] g [(if b = 0 then 0 else a.fmod b), 5] (fun v => v = .none) := by
  k_extra "my opA"
  k_extra "my opB"
theorem op_smod_spec {w : World} (FR D ST : Addr) (g a b : Int) (ha0 : 0 ≤ a) (ha1 : a < WORD) (hb0 : 0 ≤ b) (hb1 : b < WORD) : FSpec w 5 417 [.none, .ref FR] FR D ST g [a, b, 5] g [(sgnRest a b), 5] (fun v => v = .none) := by
  k_extra "my opA"
  k_extra "my opB"
theorem op_addmod_spec {w : World} (FR D ST : Addr) (g a b : Int) (c : Int) (ha0 : 0 ≤ a) (ha1 : a < WORD) (hb0 : 0 ≤ b) (hb1 : b < WORD) : FSpec w 5 424 [.none, .ref FR] FR D ST g [a, b, c, 5] g [(if c = 0 then 0 else (a + b).fmod c), 5] (fun v => v = .none) := by
  k_extra "my opA"
  k_extra "my opB"
theorem op_mulmod_spec {w : World} (FR D ST : Addr) (g a b : Int) (c : Int) (ha0 : 0 ≤ a) (ha1 : a < WORD) (hb0 : 0 ≤ b) (hb1 : b < WORD) : FSpec w 5 431 [.none, .ref FR] FR D ST g [a, b, c, 5] g [(if c = 0 then 0 else (a * b).fmod c), 5] (fun v => v = .none) := by
  k_extra "my opA"
  k_extra "my opB"
theorem op_signextend_spec {w : World} (FR D ST : Addr) (g a b : Int) (ha0 : 0 ≤ a) (ha1 : a < WORD) (hb0 : 0 ≤ b) (hb1 : b < WORD) : FSpec w 5 445 [.none, .ref FR] FR D ST g [a, b, 5] g [(if a ≥ 31 then b else if b.fmod (1 * 2 ^ (8 * a + 7).toNat + 1 * 2 ^ (8 * a + 7).toNat) ≥ 1 * 2 ^ (8 * a + 7).toNat then (b.fmod (1 * 2 ^ (8 * a + 7).toNat + 1 * 2 ^ (8 * a + 7).toNat) - 1 * 2 ^ (8 * a + 7).toNat - 1 * 2 ^ (8 * a + 7).toNat).fmod WORD else b.fmod (1 * 2 ^ (8 * a + 7).toNat + 1 * 2 ^ (8 * a + 7).toNat)), 5] (fun v => v = .none) := by
  k_extra "my opA"
  k_extra "my opB"
theorem op_byte_spec {w : World} (FR D ST : Addr) (g a b : Int) (ha0 : 0 ≤ a) (ha1 : a < WORD) (hb0 : 0 ≤ b) (hb1 : b < WORD) : FSpec w 5 522 [.none, .ref FR] FR D ST g [a, b, 5] g [(if a ≥ 32 then 0 else (b.fdiv (2 ^ (8 * (32 - 1 - a)).toNat)) % 256), 5] (fun v => v = .none) := by
  k_extra "my opA"
  k_extra "my opB"
theorem op_shl_spec {w : World} (FR D ST : Addr) (g a b : Int) (ha0 : 0 ≤ a) (ha1 : a < WORD) (hb0 : 0 ≤ b) (hb1 : b < WORD) : FSpec w 5 529 [.none, .ref FR] FR D ST g [a, b, 5] g [(if a ≥ 256 then 0 else (b * 2 ^ a.toNat).fmod WORD), 5] (fun v => v = .none) := by
  k_extra "my opA"
  k_extra "my opB"
theorem op_shr_spec {w : World} (FR D ST : Addr) (g a b : Int) (ha0 : 0 ≤ a) (ha1 : a < WORD) (hb0 : 0 ≤ b) (hb1 : b < WORD) : FSpec w 5 536 [.none, .ref FR] FR D ST g [a, b, 5] g [(if a ≥ 256 then 0 else b.fdiv (2 ^ a.toNat)), 5] (fun v => v = .none) := by
  k_extra "my opA"
  k_extra "my opB"
theorem op_sar_spec {w : World} (FR D ST : Addr) (g a b : Int) (ha0 : 0 ≤ a) (ha1 : a < WORD) (hb0 : 0 ≤ b) (hb1 : b < WORD) : FSpec w 5 543 [.none, .ref FR] FR D ST g [a, b, 5] g [(((withSign b).fdiv (2 ^ (if 256 < a then 256 else a).toNat)).fmod WORD), 5] (fun v => v = .none) := by
  k_extra "my opA"
  k_extra "my opB"
theorem op_not_spec {w : World} (FR D ST : Addr) (g a b : Int) (ha0 : 0 ≤ a) (ha1 : a < WORD) (hb0 : 0 ≤ b) (hb1 : b < WORD) : FSpec w 5 515 [.none, .ref FR] FR D ST g [a, 5] g [(WORD - 1 - a), 5] (fun v => v = .none) := by
  k_extra "my opA"
  k_extra "my opB"

end Op1S
section Op2S
theorem op_lt_spec {w : World} (FR D ST : Addr) (g a b : Int) (ha0 : 0 ≤ a) (ha1 : a < WORD) (hb0 : 0 ≤ b) (hb1 : b < WORD) : FSpec w 5 452 [.none, .ref FR] FR D ST g [a, b, 5] g [(if decide (a < b) = true then 1 else 0), 5] (fun v => v = .none) := by
  k_extra "my opA"
  k_extra "my opB"
theorem op_gt_spec {w : World} (FR D ST : Addr) (g a b : Int) (ha0 : 0 ≤ a) (ha1 : a < WORD) (hb0 : 0 ≤ b) (hb1 : b < WORD) : FSpec w 5 459 [.none, .ref FR] FR D ST g [a, b, 5] g [(if decide (b < a) = true then 1 else 0), 5] (fun v => v = .none) := by
  k_extra "my opA"
  k_extra "my opB"
theorem op_slt_spec {w : World} (FR D ST : Addr) (g a b : Int) (ha0 : 0 ≤ a) (ha1 : a < WORD) (hb0 : 0 ≤ b) (hb1 : b < WORD) : FSpec w 5 466 [.none, .ref FR] FR D ST g [a, b, 5] g [(if decide (withSign a < withSign b) = true then 1 else 0), 5] (fun v => v = .none) := by
  k_extra "my opA"
  k_extra "my opB"
theorem op_sgt_spec {w : World} (FR D ST : Addr) (g a b : Int) (ha0 : 0 ≤ a) (ha1 : a < WORD) (hb0 : 0 ≤ b) (hb1 : b < WORD) : FSpec w 5 473 [.none, .ref FR] FR D ST g [a, b, 5] g [(if decide (withSign b < withSign a) = true then 1 else 0), 5] (fun v => v = .none) := by
  k_extra "my opA"
  k_extra "my opB"
theorem op_eq_spec {w : World} (FR D ST : Addr) (g a b : Int) (ha0 : 0 ≤ a) (ha1 : a < WORD) (hb0 : 0 ≤ b) (hb1 : b < WORD) : FSpec w 5 480 [.none, .ref FR] FR D ST g [a, b, 5] g [(if (a == b) = true then 1 else 0), 5] (fun v => v = .none) := by
  k_extra "my opA"
  k_extra "my opB"
theorem op_iszero_spec {w : World} (FR D ST : Addr) (g a b : Int) (ha0 : 0 ≤ a) (ha1 : a < WORD) (hb0 : 0 ≤ b) (hb1 : b < WORD) : FSpec w 5 487 [.none, .ref FR] FR D ST g [a, 5] g [(if (a == 0) = true then 1 else 0), 5] (fun v => v = .none) := by
  k_extra "my opA"
  k_extra "my opB"
theorem op_and_spec {w : World} (FR D ST : Addr) (g a b : Int) (ha0 : 0 ≤ a) (ha1 : a < WORD) (hb0 : 0 ≤ b) (hb1 : b < WORD) : FSpec w 5 494 [.none, .ref FR] FR D ST g [a, b, 5] g [(Builtin.bitAnd a b), 5] (fun v => v = .none) := by
  k_extra "my opA"
  k_extra "my opB"
theorem op_or_spec {w : World} (FR D ST : Addr) (g a b : Int) (ha0 : 0 ≤ a) (ha1 : a < WORD) (hb0 : 0 ≤ b) (hb1 : b < WORD) : FSpec w 5 501 [.none, .ref FR] FR D ST g [a, b, 5] g [(Builtin.bitOr a b), 5] (fun v => v = .none) := by
  k_extra "my opA"
  k_extra "my opB"
theorem op_xor_spec {w : World} (FR D ST : Addr) (g a b : Int) (ha0 : 0 ≤ a) (ha1 : a < WORD) (hb0 : 0 ≤ b) (hb1 : b < WORD) : FSpec w 5 508 [.none, .ref FR] FR D ST g [a, b, 5] g [(Builtin.bitXor a b), 5] (fun v => v = .none) := by
  k_extra "my opA"
  k_extra "my opB"

end Op2S
section CRS
section
open MineH
noncomputable def codeC (M : Model) (A : Around) (c : Code) (R : Result → Shared → Prop) (s : Shared) : Prop := ∀ Γ p, Γ.code = c → Γ.Below A → Clean Γ → wpCode M Γ R p s
theorem clean_goto {Γ : Ctx} (h : Clean Γ) {c : Code} (hc : isDec c = false) : Clean (Γ.goto c) := ⟨hc, h.2⟩
theorem clean_enter {Γ : Ctx} (h : Clean Γ) {c : Code} {hd : Option Value} {p : Pos} (hc : isDec c = false) : Clean (Γ.enter c hd p) := ⟨hc, fun q hq => by
  rcases List.mem_cons.mp hq with rfl | hq
  · exact h.1
  · exact h.2 q hq⟩
section
variable {α β : Type} {M : Model} {A : Around} {E : Value → Shared → Prop} {s : Shared}
theorem c_tryCatch {m : Sem α} {k : Value → Sem α} {Q : α → Shared → Prop} (h : wpC M A m Q (fun e s' => wpC M A (k e) Q E s') s) : wpC M A (tryCatch m k) Q E s := fun Γ p hΓ hc => by
  rw [Sem.wp_tryCatch']
  exact Sem.wp_mono M Γ m (fun _ _ _ h' => h') (fun e p' s' h' => h' Γ p' hΓ hc) p s (h Γ p hΓ hc)
theorem c_onRaise {m : Sem α} {k : Value → Sem Unit} {Q : α → Shared → Prop} (h : wpC M A m Q (fun e s' => wpC M A (k e) (fun _ s'' => E e s'') E s') s) : wpC M A (m.onRaise k) Q E s := fun Γ p hΓ hc => by
  rw [Sem.wp_onRaise]
  exact Sem.wp_mono M Γ m (fun _ _ _ h' => h') (fun e p' s' h' => h' Γ p' hΓ hc) p s (h Γ p hΓ hc)
theorem c_attempt {m : Sem α} {Q : Except Value α → Shared → Prop} (h : wpC M A m (fun a => Q (.ok a)) (fun e => Q (.error e)) s) : wpC M A m.attempt Q E s := fun Γ p hΓ hc => by rw [Sem.wp_attempt]; exact h Γ p hΓ hc
theorem c_holding {vs : List Value} {m : Sem α} {Q : α → Shared → Prop} (h : wpC M A m Q E s) : wpC M A (holding vs m) Q E s := fun Γ p hΓ hc => by rw [Sem.wp_holding]; exact h Γ p hΓ hc
theorem c_keep {vs : List Value} {m : Sem α} {Q : α → Shared → Prop} (h : wpC M A m Q E s) : wpC M A (m.keep vs) Q E s := fun Γ p hΓ hc => by rw [Sem.wp_keep]; exact h Γ p hΓ hc
theorem c_operate {vs : List Value} {m : Sem Value} {Q : Value → Shared → Prop} (h : wpC M A m Q E s) : wpC M A (operate vs m) Q E s := fun Γ p hΓ hc => by rw [Sem.wp_operate]; exact h Γ p hΓ hc
theorem c_at {pos : Pos} {Q : Unit → Shared → Prop} (h : Q () s) : wpC M A (standAt pos) Q E s := fun _ _ _ _ => h
theorem c_then {m : Sem α} {f : α → Sem β} {Q : β → Shared → Prop} (h : wpAny M A m (fun a s' => wpC M A (f a) Q E s') E s) : wpC M A (m >>= f) Q E s := c_bind (c_any h)
theorem c_stack {Q : List (Code × Pos) → Shared → Prop}
    (h : ∀ st : List (Code × Pos), (∀ g, A.guards = some g → guardsOf st = g) → (∀ q ∈ st, isDec q.1 = false) → Q st s) : wpC M A stack Q E s := fun Γ p hΓ hc => by
  show Q ((Γ.code, p) :: Γ.below) s
  exact h _ (fun g hg => by rw [guardsOf_cons]; exact hΓ.2.2.2.1 g hg) (fun q hq => by
    rcases List.mem_cons.mp hq with rfl | hq
    · exact hc.1
    · exact hc.2 q hq)
theorem cc_any {c : Code} {R : Result → Shared → Prop} (h : codeAny M A c R s) : codeC M A c R s := fun Γ p hc hΓ _ => h Γ p hc hΓ
theorem cc_mono {c : Code} {R R' : Result → Shared → Prop} (h : codeC M A c R s) (hR : ∀ r s, R r s → R' r s) : codeC M A c R' s := fun Γ p hc hΓ hcl => wpCode_mono hR (h Γ p hc hΓ hcl)
theorem cc_of_tree {c : Code} {R : Result → Shared → Prop}
    (h : wpC M (A.under c) (M.den c) (fun fin s' => match fin with | .done f => R (.ok f) s' | .again c' => c'.quiet = true ∧ isDec c' = false ∧ codeC M A c' R s') (fun e s' => R (.error e) s') s) : codeC M A c R s := fun Γ p hc hΓ hcl => by
  rw [wpCode_iff_wp, hc]
  refine Sem.wp_mono M Γ _ (fun fin p' s' h' => ?_) (fun _ _ _ h' => h') p s (h Γ p (hc ▸ hΓ.in) hcl)
  cases fin with
  | done f => exact h'
  | again c' => exact ⟨h'.1, h'.2.2 (Γ.goto c') p' rfl (hΓ.goto c') (clean_goto hcl h'.2.1)⟩
theorem c_runCode {c : Code} {hd : Option Value} {g : Bool} {l : List Value} {k : Result → Sem α} {Q : α → Shared → Prop} (hc : codeC M (A.mark hd) c (fun r s' => wpC M A (k r) Q E s') s) (hnb : hd ≠ some byPass) (hdec : isDec c = false) :
    wpC M A (.call c hd g l k) Q E s := fun Γ p hΓ hcl => wpCode_mono (fun _ _ q => q Γ p hΓ hcl) (hc _ p rfl (hΓ.enter c hd p hnb) (clean_enter hcl hdec))
theorem c_call {f : Value} {pos : List Value} {kw : List (Str × Value)} {Q : Value → Shared → Prop}
    (hc : codeC M A (.call f ⟨pos, kw⟩) (fun r s' => match r with | .ok (.ret v) => Q v s' | .ok _ => False | .error e => E e s') s) : wpC M A (call f pos kw) Q E s := by
  refine c_runCode (cc_mono hc fun r s' h => ?_) (by simp) rfl
  rcases r with e | (v | _ | _ | _) <;> first | exact fun _ _ _ _ => h | exact h.elim
end
section
variable {M : Model} {A : Around} {E : Value → Shared → Prop} {s : Shared} {env : Env}
theorem c_execs_nil {Q : Flow → Shared → Prop} (h : Q .next s) : wpC M A (execs [] env) Q E s := c_pure h
theorem c_execs_cons {st : Stmt} {rest : List Stmt} {Q : Flow → Shared → Prop} (h : wpC M A (exec st env) (fun f s' => match f with | .next => wpC M A (execs rest env) Q E s' | f => Q f s') E s) : wpC M A (execs (st :: rest) env) Q E s := by
  rw [execs_cons]
  refine c_bind (c_mono h (fun f s' h' => ?_) fun _ _ x => x)
  cases f <;> first | exact h' | exact c_pure h'
theorem c_assign_name {x : Str} {pos' pos : Pos} {value : Expr} {Q : Flow → Shared → Prop} (h : wpC M A (eval value env) (fun v s₁ => wpC M A (storeName env x v) (fun _ => Q .next) E s₁) E s)
    (hs : swapsWith value (some (.Name x pos')) pos.line env = pure false) : wpC M A (exec (.Assign [.Name x pos'] value pos) env) Q E s := fun Γ p hΓ hc => by
  simp only [exec_Assign_Name env x pos' value pos hs, Sem.wp_bind', Sem.wp_cmd_standAt, Sem.wp_bindName, Sem.wp_pure']
  exact Sem.wp_mono M Γ _ (fun v _ s₁ h₁ => h₁ Γ _ hΓ hc) (fun _ _ _ h' => h') _ _ (h Γ _ hΓ hc)
theorem c_if {test : Expr} {body orelse : List Stmt} {pos : Pos} {Q : Flow → Shared → Prop}
    (h : wpC M A (isTrue test env (eval test env)) (fun b s₂ => if b then wpC M A (execs body env) Q E s₂ else wpC M A (execs orelse env) Q E s₂) E s) : wpC M A (exec (.If test body orelse pos) env) Q E s := fun Γ p hΓ hc => by
  simp only [exec_If, Sem.wp_bind', Sem.wp_cmd_standAt]
  refine Sem.wp_mono M Γ _ (fun b p₂ s₂ h₂ => ?_) (fun _ _ _ h' => h') _ _ (h Γ _ hΓ hc)
  cases b <;> exact h₂ Γ p₂ hΓ hc
theorem c_return {e : Expr} {pos : Pos} {Q : Flow → Shared → Prop} (h : wpC M A (eval e env) (fun v => Q (.ret v)) E s) : wpC M A (exec (.Return (some e) pos) env) Q E s := fun Γ p hΓ hc => by
  simp only [exec_Return_some, Sem.wp_bind', Sem.wp_cmd_standAt, Sem.wp_pure']; exact h Γ _ hΓ hc
theorem c_expr {e : Expr} {pos : Pos} {Q : Flow → Shared → Prop} {prog : Program} {w : World} (h : wpC (model prog w) A (eval e env) (fun _ => Q .next) E s)
    (hi : interactive env = false) (hs : swapsWith e none pos.line env = pure false) : wpC (model prog w) A (exec (.Expr e pos) env) Q E s := by
  rw [exec_Expr env e pos hi hs]
  exact c_bind (c_at (c_bind (c_mono h (fun v s' h' => c_any (wpAny_dropValue h')) fun _ _ x => x)))
theorem c_isTrue_not {x : Expr} {pos : Pos} {whole : Sem Value} {Q : Bool → Shared → Prop} (h : wpC M A (isTrue x env (eval x env)) (fun b => Q (!b)) E s) : wpC M A (isTrue (.UnaryOp .Not x pos) env whole) Q E s := by
  show wpC M A (isTrue x env (eval x env) >>= fun b => pure (!b)) Q E s
  exact c_bind (c_mono h (fun b s' h' => c_pure h') fun _ _ z => z)
theorem c_isTrue_or {x y : Expr} {pos : Pos} {whole : Sem Value} {Q : Bool → Shared → Prop}
    (h : wpC M A (isTrue x env (eval x env)) (fun b s' => if b = true then Q true s' else wpC M A (isTrue y env (eval y env)) Q E s') E s) : wpC M A (isTrue (.BoolOp .Or [x, y] pos) env whole) Q E s := by
  show wpC M A (allTrue .Or [x, y] env) Q E s
  rw [allTrue]
  refine c_bind (c_mono h (fun b s' h' => ?_) fun _ _ z => z)
  cases b with
  | true => exact c_pure h'
  | false =>
    show wpC M A (allTrue .Or [y] env) Q E s'
    rw [allTrue]
    refine c_bind (c_mono h' (fun b s₂ h₂ => ?_) fun _ _ z => z)
    cases b with
    | true => exact c_pure h₂
    | false => show wpC M A (allTrue .Or [] env) Q E s₂; rw [allTrue]; exact c_pure h₂
theorem c_isTrue_call {f : Expr} {args : List Expr} {kws : List Keyword} {pos : Pos} {whole : Sem Value} {Q : Bool → Shared → Prop} (h : wpC M A whole (fun v s' => wpAny M A (truthy v) Q E s') E s) : wpC M A (isTrue (.Call f args kws pos) env whole) Q E s := by
  show wpC M A (whole >>= fun v => standAt _ >>= fun _ => holding [v] (truthy v)) Q E s
  exact c_bind (c_mono h (fun v s' h' => c_bind (c_at (c_holding (c_any h')))) fun _ _ z => z)
theorem c_boolOp_cons {pos : Pos} {op : BoolOp} {x y : Sem Value} {rest : List (Sem Value)} {Q : Value → Shared → Prop}
    (h : wpC M A x (fun v s' => wpAny M A (truthy v) (fun t s₂ => match op, t with | .And, false | .Or, true => Q v s₂ | _, _ => wpC M A (boolOp pos op (y :: rest)) Q E s₂) E s') E s) : wpC M A (boolOp pos op (x :: y :: rest)) Q E s := by
  rw [boolOp]
  · refine c_bind (c_mono h (fun v s' h' => c_bind (c_at (c_bind (c_holding (c_mono (c_any h') (fun t s₂ h₂ => ?_) fun _ _ z => z))))) fun _ _ z => z)
    cases op <;> cases t <;> first | exact c_pure h₂ | exact h₂
  · intro h; cases h
theorem c_call_name {x : Str} {np pos : Pos} {args : List Expr} {keywords : List Keyword} {Q : Value → Shared → Prop}
    (h : wpAny M A (eval (.Name x np) env) (fun f s₁ => wpC M A (callWith pos f [] (backTo pos (starEach args env)) (backToKw pos (keywordEach keywords env))) Q E s₁) E s) : wpC M A (eval (.Call (.Name x np) args keywords pos) env) Q E s := by
  show wpC M A (do callWith pos (← eval (.Name x np) env) [] (backTo pos (starEach args env)) (backToKw pos (keywordEach keywords env))) Q E s
  exact c_then h
theorem c_callWith {pos : Pos} {f : Value} {P : Heap → Prop} {first : List Value} {args : List (Bool × Sem Value)} {Q : Value → Shared → Prop} (hplain : (args.any (·.1) || ([] : List (Option Str × Sem Value)).any (·.1.isNone)) = false)
    (hk : ∀ h, P h → ∃ k, (k = Keeper.frame ∨ k = Keeper.machine ∨ k = Keeper.boundFrame) ∧ Looks M h (keeperOf f) k)
    (h : wpC M A (evalArgs f true args []) (fun a s₁ => P s₁.heap ∧ wpC M A (call f (first ++ a.pos) a.kw) Q E s₁) E s) : wpC M A (callWith pos f first args []) Q E s := by
  unfold callWith
  refine c_bind (c_holding (c_mono h (fun a s₁ h₁ => c_bind (c_at ?_)) fun _ _ x => x))
  obtain ⟨k, hk', L⟩ := hk _ h₁.1
  simp only [hplain]
  refine c_bind (c_any (L.here ?_))
  have tail : ∀ {t : Sem Value}, wpC M A t Q E s₁ → wpC M A (t >>= fun r => holding [r] point >>= fun _ => pure r) Q E s₁ :=
    fun ht => c_bind (c_mono ht (fun r s₂ hr => c_any (wpAny_bind (wpAny_holding (wpAny_point (wpAny_pure hr))))) fun _ _ x => x)
  have marked (mk : Value) : wpC M A (callMarked mk f (first ++ a.pos) a.kw) Q E s₁ := by unfold callMarked; exact c_keep h₁.2
  rcases hk' with rfl | rfl | rfl <;> dsimp only <;> first | exact tail h₁.2 | (split <;> first | exact tail h₁.2 | exact tail (marked _))
theorem c_evalArgs {f : Value} {x : Sem Value} {rest : List (Bool × Sem Value)} {Q : Args → Shared → Prop} (h : wpC M A (spliced ((false, x) :: rest)) (fun vs s' => Q ⟨vs, []⟩ s') E s) : wpC M A (evalArgs f true ((false, x) :: rest) []) Q E s := by
  unfold evalArgs
  show wpC M A (spliced ((false, x) :: rest) >>= _) Q E s
  refine c_bind (c_mono h (fun vs s' h' => ?_) fun _ _ x => x)
  refine c_holding ?_
  exact c_bind (c_pure (c_bind (c_pure (c_pure h'))))
theorem c_spliced_nil {Q : List Value → Shared → Prop} (h : Q [] s) : wpC M A (spliced []) Q E s := c_pure h
theorem c_spliced_cons {x : Sem Value} {rest : List (Bool × Sem Value)} {Q : List Value → Shared → Prop} (h : wpC M A x (fun v s₁ => wpC M A (spliced rest) (fun vs s₂ => Q (v :: vs) s₂) E s₁) E s) : wpC M A (spliced ((false, x) :: rest)) Q E s := by
  rw [spliced]
  refine c_bind (c_mono h (fun v s₁ h₁ => ?_) fun _ _ z => z)
  refine c_bind (c_pure ?_)
  exact c_bind (c_holding (c_mono h₁ (fun vs s₂ h₂ => c_pure h₂) fun _ _ z => z))
theorem c_try {body orelse : List Stmt} {hd : ExceptHandler} {handlers : List ExceptHandler} {pos : Pos} {Q : Flow → Shared → Prop}
    (h : wpC M A (execs body env) (fun f s' => match f with | .next => wpC M A (execs orelse env) Q E s' | f => Q f s')
      (fun e s' => wpC M A (noteFrame e env) (fun _ s₂ => wpC M A (setFlight e none) (fun _ s₃ => wpC M A (handleBy e env (hd :: handlers)) Q E s₃) E s₂) E s') s) : wpC M A (exec (.Try body (hd :: handlers) orelse [] pos) env) Q E s := by
  rw [arm_exec_Try]
  refine c_bind (c_at ?_)
  unfold tryStmt
  refine c_bind (c_attempt (c_mono h (fun f s' h' => ?_) fun e s' h' => ?_))
  · cases f <;> first | exact h' | exact c_pure h'
  · refine c_bind (c_mono h' (fun _ s₂ h₂ => ?_) fun _ _ z => z)
    exact c_bind (c_mono h₂ (fun _ s₃ h₃ => h₃) fun _ _ z => z)
end
section
variable {prog : Program} {w : World} {A : Around} {E : Value → Shared → Prop} {s : Shared} {R : Result → Shared → Prop}
theorem cc_func {body : List Stmt} {env : Env}
    (h : wpC (model prog w) (A.deeper env) (execs body env) (fun f s' => R (.ok (.ret (match f with | .ret v => v | _ => .none))) s')
      (fun e s' => wpC (model prog w) (A.deeper env) (leaving env e) (fun _ s'' => R (.error e) s'') (fun e' s'' => R (.error e') s'') s') s) : codeC (model prog w) A (.func body env) R s := by
  refine cc_of_tree ?_
  show wpC _ (A.deeper env) (do point; match ← (execs body env).onRaise (leaving env) with | .ret v => ret v | _ => ret .none) _ _ s
  refine c_bind (c_any (wpAny_point (c_bind (c_onRaise (c_mono h (fun f s' h' => ?_) fun _ _ h' => h')))))
  cases f <;> exact c_pure h'
theorem cc_call_function {a : Addr} {args : Args} {o : Obj} {fd : FuncData} {body : List Stmt} (hroom : A.depth < recursionLimit) (ho : s.heap.get? a = some o)
    (hd' : o.data = .func fd) (hco : fd.scope.isCoroutine = false) (hgen : fd.scope.isGenerator = false) (hbody : fd.body = .stmts body) (hcd : s.heap.CodeRec fd.code fd.qualname)
    (h : wpAny (model prog w) A.in1 (bindArgs fd args) (fun binds s₁ =>
      wpAny (model prog w) A.in1 (newFunctionEnv fd.scope fd.globals fd.closure binds (fd.qualname ++ ".<locals>.") (some a) fd.code none fd.builtins)
        (fun env s₂ => s₂.heap.NoLimit ∧ codeC (model prog w) A (.func body env) R s₂) (fun e s' => R (.error e) s') s₁) (fun e s' => R (.error e) s') s) : codeC (model prog w) A (.call (.ref a) args) R s := by
  refine cc_of_tree ?_
  show wpC _ A.in1 (callAny (.ref a) args) _ _ s
  simp only [callAny]
  refine c_bind (c_any (wpAny_load ho ?_))
  obtain ⟨c, oc, vs, tq, hc, hoc, hdc, hq⟩ := hcd
  simp only [hd', callFunction, hco, hgen, hbody, hc]
  rw [hc] at h
  refine c_bind (m := field (.ref c) 1) (c_any (wpAny_field hoc hdc hq (c_bind (c_pure ?_))))
  exact c_bind (c_mono (c_any h) (fun binds s₁ h₁ => c_bind (c_mono (c_any h₁) (fun env s₂ h₂ => c_bind (c_any (wpAny_enterFrame h₂.1 hroom (c_pure ⟨rfl, rfl, h₂.2⟩)))) fun _ _ h' => h')) fun _ _ h' => h')
theorem cc_call_def {a : Addr} {o : Obj} {fd : FuncData} {body : List Stmt} {args : Args} {binds : List (Str × Value)}
    (hroom : A.depth < recursionLimit) (ho : s.heap.get? a = some o) (hdata : o.data = .func fd) (hlim : s.heap.NoLimit) (hcd : s.heap.CodeRec fd.code fd.qualname)
    (hbody : fd.body = .stmts body) (hbind : BindsTo s fd args binds) (hcell : ∀ x ∈ fd.scope.names, x.2 ≠ .cell) (hloc : ∀ x ∈ binds, fd.scope.names.lookup x.1 = some .local)
    (h : ∀ h₀, h₀.Ns s.heap.objs.size (fun x => binds.reverse.lookup x) → (∀ b o, s.heap.get? b = some o → h₀.get? b = some o) →
      wpC (model prog w) (A.deeper (callEnv fd s.heap.objs.size a)) (execs body (callEnv fd s.heap.objs.size a)) (fun f s' => R (.ok (.ret (match f with | .ret v => v | _ => .none))) s')
        (fun e s' => wpC (model prog w) (A.deeper (callEnv fd s.heap.objs.size a)) (leaving (callEnv fd s.heap.objs.size a) e) (fun _ s'' => R (.error e) s'') (fun e' s'' => R (.error e') s'') s')
        { s with heap := h₀, toks := s.toks + binds.length })
    (hco : fd.scope.isCoroutine = false) (hgen : fd.scope.isGenerator = false) (hk : fd.scope.kind = .function) : codeC (model prog w) A (.call (.ref a) args) R s := by
  refine cc_call_function hroom ho hdata hco hgen hbody hcd (hbind _ _ _ _ ?_)
  refine wpAny_newFunctionEnv hcell hloc (fun h₀ hns₀ hsb₀ => ⟨hlim.fresh _ hsb₀, cc_func (h h₀ hns₀ fun b o e => ?_)⟩) hk
  exact hsb₀.extBut b o (Nat.ne_of_lt (Heap.lt_size e)) (Heap.get?_push_of_some _ e)
end
end
section
open MineH
variable {M : Model} {A : Around} {E : Value → Shared → Prop} {s : Shared} {env : Env}
theorem c_assign_attr {o : Expr} {attr : Str} {pos' : Pos} {value : Expr} {pos : Pos} {Q : Flow → Shared → Prop}
    (h : wpC M A (eval value env) (fun v s₁ => wpAny M A (eval o env) (fun ov s₂ => wpAny M A (setAttr ov attr v) (fun _ => Q .next) E s₂) E s₁) E s)
    (hs : swapsWith value (some (.Attribute o attr pos')) pos.line env = pure false) : wpC M A (exec (.Assign [.Attribute o attr pos'] value pos) env) Q E s := fun Γ p hΓ hc => by
  simp only [plainObj_exec_Assign_Attribute o attr pos' value pos hs, assign_Attribute, Sem.wp_bind', Sem.wp_holding, Sem.wp_cmd_standAt, Sem.wp_release, Sem.wp_pure']
  exact Sem.wp_mono M Γ _ (fun v p₁ s₁ h₁ => Sem.wp_mono M Γ _ (fun ov _ s₂ h₂ => h₂ Γ _ hΓ) (fun _ _ _ h' => h') _ _ (h₁ Γ p₁ hΓ)) (fun _ _ _ h' => h') _ _ (h Γ _ hΓ hc)
theorem c_evalArgs_nil {f : Value} {Q : Args → Shared → Prop} (h : Q ⟨[], []⟩ s) : wpC M A (evalArgs f true [] []) Q E s := c_any (evalArgs_nil3 h)
end
section
open MineH
variable {M : Model} {A : Around} {E : Value → Shared → Prop} {s : Shared} {env : Env}
theorem c_callPlain {pos : Pos} {f : Value} {P : Heap → Prop} {first : List Value} {e : Expr} {rest : List Expr} {Q : Value → Shared → Prop}
    (hk : ∀ h, P h → ∃ k, (k = Keeper.frame ∨ k = Keeper.machine ∨ k = Keeper.boundFrame) ∧ Looks M h (keeperOf f) k)
    (h : wpC M A (spliced (backTo pos (starEach (e :: rest) env))) (fun vs s₁ => P s₁.heap ∧ wpC M A (call f (first ++ vs) []) Q E s₁) E s)
    (he : starEach (e :: rest) env = (false, eval e env) :: starEach rest env) (hplain : (backTo pos (starEach rest env)).any (·.1) = false) :
    wpC M A (callWith pos f first (backTo pos (starEach (e :: rest) env)) []) Q E s := by
  rw [he] at h ⊢
  exact c_callWith (by show ((false || (backTo pos (starEach rest env)).any (·.1)) || false) = false; rw [hplain]; rfl) hk (c_evalArgs h)
theorem c_splicedE {pos : Pos} {e : Expr} {rest : List Expr} {Q : List Value → Shared → Prop} (h : wpC M A (eval e env) (fun v s₁ => wpC M A (spliced (backTo pos (starEach rest env))) (fun vs s₂ => Q (v :: vs) s₂) E s₁) E s)
    (he : starEach (e :: rest) env = (false, eval e env) :: starEach rest env) : wpC M A (spliced (backTo pos (starEach (e :: rest) env))) Q E s := by
  rw [he]
  exact c_spliced_cons h
end
theorem nameN {P : Prop} {g h : Heap} {L : Addr} {news : List (Addr × Obj)} (N : News g L h news) (k : let nx := news; News g L h nx → P) : P := k N
section
open MineH
section
variable {α : Type} {M : Model} {A : Around} {E : Value → Shared → Prop} {s : Shared} {env : Env}
theorem c_run {c : Code} {h : Option Value} {Q : Flow → Shared → Prop} (hc : codeC M (A.mark h) c (fun r s' => match r with | .ok f => Q f s' | .error e => E e s') s) (hnb : h ≠ some byPass) (hdec : isDec c = false) : wpC M A (run c h) Q E s := by
  refine c_runCode (cc_mono hc fun r s' h => ?_) hnb hdec
  rcases r with e | f <;> exact fun _ _ _ _ => h
noncomputable abbrev NoE : Value → Shared → Prop := fun _ _ => False
theorem c_quiet {m : Sem α} {k : Value → Sem Unit} {Q : α → Shared → Prop} (h : wpC M A m Q NoE s) : wpC M A (m.onRaise k) Q E s := c_onRaise (c_mono h (fun _ _ z => z) fun _ _ z => z.elim)
theorem q_quiet {m : Sem α} {k : Value → Sem Unit} {Q : α → Shared → Prop} (h : wpAny M A m Q NoE s) : wpAny M A (m.onRaise k) Q E s := wpAny_onRaise (wpAny_mono h (fun _ _ z => z) fun _ _ z => z.elim)
theorem c_off {c : Bool} {a b : Sem α} {Q : α → Shared → Prop} (hc : c = false) (h : wpC M A b Q E s) : wpC M A (if c = true then a else b) Q E s := by subst hc; exact h
theorem c_on {c : Bool} {a b : Sem α} {Q : α → Shared → Prop} (hc : c = true) (h : wpC M A a Q E s) : wpC M A (if c = true then a else b) Q E s := by subst hc; exact h
theorem c_load {a : Addr} {q : Option Value} {k : Obj → Sem α} {o : Obj} {Q : α → Shared → Prop} (ho : s.heap.get? a = some o) (h : wpC M A (k o) Q E s) : wpC M A (.load a q k) Q E s :=
  c_bind (m := loadPart a q) (f := k) (c_any (wpAny_loadPart ho h))
end
section
variable {prog : Program} {w : World} {A : Around} {E : Value → Shared → Prop} {s : Shared} {R : Result → Shared → Prop}
theorem cc_builtin {id : String} {args : Args} {b : Builtin} (hb : entryFor table id = some b)
    (h : wpC (model prog w) (A.under (.builtin id args)) (b args) (fun fin s' => match fin with | .done f => R (.ok f) s' | .again c' => c'.quiet = true ∧ isDec c' = false ∧ codeC (model prog w) A c' R s') (fun e s' => R (.error e) s') s) : codeC (model prog w) A (.builtin id args) R s := by
  refine cc_of_tree ?_
  show wpC _ _ (match entryFor table id with | some b => b args | none => unsupported ((withoutEnding? id "#data").getD id)) _ _ s
  rw [hb]; exact h
theorem cc_call_builtin {id : String} {args : Args} (hq : (Code.builtin id args).quiet = true) (hdec : isDec (.builtin id args) = false)
    (h : wpAny (model prog w) A.in1 (checkBuiltinCall id args) (fun _ s₁ => codeC (model prog w) A (.builtin id args) R s₁) (fun e s' => R (.error e) s') s) : codeC (model prog w) A (.call (.builtin id) args) R s := by
  refine cc_of_tree ?_
  show wpC _ A.in1 (do checkBuiltinCall id args; again (.builtin id args)) _ _ s
  exact c_bind (c_mono (c_any h) (fun _ s₁ h₁ => c_pure ⟨hq, hdec, h₁⟩) fun _ _ h' => h')
theorem cc_forLoop {env : Env} {target : Expr} {it : Value} {body : List Stmt} (I : Nat → Shared → Prop)
    (turn : ∀ n s, I n s → wpAny (model prog w) A (pyNext it) (fun r s₁ => match r with
        | none => R (.ok .next) s₁
        | some v => wpAny (model prog w) A (letOwnedTupleGo target it v) (fun _ s₁' => wpAny (model prog w) A (assign target env v) (fun _ s₂ => wpC (model prog w) A (execs body env) (fun f s₃ => match f with
          | .next | .cont => ∃ m, m < n ∧ I m s₃
          | .brk => R (.ok .next) s₃
          | .ret v => R (.ok (.ret v)) s₃) NoE s₂) NoE s₁') NoE s₁) NoE s) (n : Nat) (h : I n s) : codeC (model prog w) A (.forLoop target it body [] env) R s := by
  induction n using Nat.strongRecOn generalizing s with
  | ind n ih =>
    refine cc_of_tree ?_
    show wpC _ A ((forTurn target it body [] env).onRaise (fun x => do noteFrame x env; theTreesLotGoes x)) _ _ s
    refine c_quiet ?_
    simp only [forTurn]
    refine c_bind (c_at (c_bind (c_mono (c_any (q_quiet (turn n s h))) (fun r s₁ h₁ => ?_) fun _ _ z => z)))
    cases r with
    | none => exact c_pure ⟨rfl, rfl, cc_any (codeAny_block (wpAny_pure h₁))⟩
    | some v =>
      refine c_bind (c_mono (c_any h₁) (fun _ s₁' h₁' => c_bind (c_mono (c_any h₁') (fun _ s₂ h₂ => c_bind (c_mono h₂ (fun f s₃ h₃ => ?_) fun _ _ z => z)) fun _ _ z => z)) fun _ _ z => z)
      cases f with
      | next => obtain ⟨m, hm, hI⟩ := h₃; exact c_pure ⟨rfl, rfl, ih m hm hI⟩
      | cont => obtain ⟨m, hm, hI⟩ := h₃; exact c_pure ⟨rfl, rfl, ih m hm hI⟩
      | brk => exact c_pure h₃
      | ret v => exact c_pure h₃
theorem c_for {env : Env} {target iter : Expr} {body : List Stmt} {pos : Pos} {Q : Flow → Shared → Prop}
    (h : wpAny (model prog w) A (eval iter env) (fun xv s₁ => wpAny (model prog w) A (pyIter xv) (fun it s₂ => ∃ (I : Nat → Shared → Prop) (n : Nat), I n s₂ ∧
      ∀ n s, I n s → wpAny (model prog w) A (pyNext it) (fun r s₁ => match r with
        | none => Q .next s₁
        | some v => wpAny (model prog w) A (letOwnedTupleGo target it v) (fun _ s₁' => wpAny (model prog w) A (assign target env v) (fun _ s₂ => wpC (model prog w) A (execs body env) (fun f s₃ => match f with
          | .next | .cont => ∃ m, m < n ∧ I m s₃
          | .brk => Q .next s₃
          | .ret v => Q (.ret v) s₃) NoE s₂) NoE s₁') NoE s₁) NoE s) NoE s₁) NoE s)
    (hs : ∀ x, foldedSetIterable iter env x = pure x := by intro _; rfl) : wpC (model prog w) A (exec (.For target iter body [] pos) env) Q NoE s := by
  rw [arm_exec_For]
  refine c_bind (c_at (c_bind (c_mono (c_any h) (fun xv s₁ h₁ => ?_) fun _ _ z => z)))
  rw [hs]
  refine c_bind (c_pure (c_bind (c_at (c_bind (c_holding (c_mono (c_any h₁) (fun it s₂ h₂ => ?_) fun _ _ z => z))))))
  obtain ⟨I, n, hI, turn⟩ := h₂
  unfold runOwn
  exact c_quiet (c_run (cc_forLoop I (R := fun r s' => match r with | .ok f => Q f s' | .error e => NoE e s') turn n hI) (by intro x; cases x) rfl)
theorem cc_make {C : Addr} {rest : List Value} {kw : List (Str × Value)} {init : Value} {h : Heap} {g : Array GenState} {d : Drawn} {t : Nat} {os : OsState} (Y : Makes (model prog w) h C) (hi : Looks (model prog w) h (typeLookup (.ref C) "__init__") (some init))
    (hb : ∀ self, Looks (model prog w) h (bindSpecial init self) (init, [self])) (hne : (some init != some (Value.builtin "object.__init__")) = true ∨ (rest = [] ∧ kw = []))
    (hq : codeC (model prog w) (A.under (.builtin "type.__call__" ⟨.ref C :: rest, kw⟩)) (.call init ⟨.ref (h.objs.size + 1) :: rest, kw⟩) (InitBack (h.objs.size + 1) R) ⟨(h.push emptyDict).push (instObj C h.objs.size), g, d, t, os⟩) :
    codeC (model prog w) A (.call (.ref C) ⟨rest, kw⟩) R ⟨h, g, d, t, os⟩ := by
  have Y' := Y
  obtain ⟨⟨oc, od, cd, sl, hC, e1, e2, e4⟩, made, base, self, top, call, typ⟩ := Y
  refine cc_of_tree ?_
  show wpC _ _ (callAny (.ref C) _) _ _ _
  refine c_load hC ?_
  show wpC _ _ (callAny.viaDunder (.ref C) _) _ _ _
  unfold callAny.viaDunder
  refine c_bind (c_any (call.at ?_))
  (try dsimp only)
  rw [tc_bind]
  refine c_bind (c_pure (c_bind (c_pure ?_)))
  refine c_pure (a := Fin.again (.call (.builtin "type.__call__") ⟨.ref C :: rest, kw⟩)) ⟨rfl, rfl, ?_⟩
  refine cc_call_builtin (Code.quiet_builtin _ (by decide +kernel)) (show Builtin.Bytes.decodersThatHold.contains "type.__call__" = false by decide +kernel) (check_slot tc_kind tc_split typ (tc_args _ _ _) (cc_builtin entry_typeCall ?_))
  unfold Builtin.«type.__call__»
  have hm : Looks (model prog w) h (mroOf (.ref C)) cd.mro := ((Looks.ld (part := none) hC).andThen .now).andThen .now
  have hq' := cc_mono hq (R' := fun r s' => match r with | .ok (.ret v) => v = .none ∧ R (.ok (.ret (.ref (h.objs.size + 1)))) s' | .ok _ => False | .error e => R (.error e) s') (fun r s' z => by
    rcases r with e | (v | _ | _ | _) <;> exact z)
  refine c_off rfl ?_
  refine c_bind (c_any (hm.at ?_))
  refine c_off e4 ?_
  refine c_bind (c_any (made.at ?_))
  refine c_bind (c_pure ?_)
  have k : ∀ b o, h.get? b = some o → ((h.push emptyDict).push (instObj C h.objs.size)).get? b = some o := fun b o e => Heap.get?_push_of_some _ (Heap.get?_push_of_some _ e)
  have hx : ((h.push emptyDict).push (instObj C h.objs.size)).get? (h.objs.size + 1) = some (instObj C h.objs.size) := by heap_get
  have t1 : Looks (model prog w) ((h.push emptyDict).push (instObj C h.objs.size)) (typeOf (.ref (h.objs.size + 1))) (.ref C) := (Looks.ld hx).andThen .now
  have s1 := self.keeps k
  have i1 := hi.keeps k
  have b1 := (hb (.ref (h.objs.size + 1))).keeps k
  refine c_bind (c_holding (c_any (wpAny_call (new_K Y' hi hne ?_))))
  (try dsimp only)
  unfold isInstance
  refine c_bind (c_bind (c_any (t1.at (c_any (s1.at ?_)))))
  refine c_off rfl ?_
  unfold callSpecial? specialOf
  refine c_bind (c_holding (c_bind (c_bind (c_any (t1.at (c_any (i1.at ?_)))))))
  (try dsimp only)
  refine c_holding (c_bind (c_any (b1.at (c_bind (c_mono (c_call hq') (fun v s' hv => ?_) fun _ _ z => z)))))
  obtain ⟨rfl, hv⟩ := hv
  exact c_pure (c_off rfl (c_pure hv))
end
end
namespace BA
theorem mro : mroOf (.type "bytearray") = pure [.type "bytearray", .type "object"] := by rw [mroOf_type]; kernel_rfl
theorem lookup_new : typeLookup (.type "bytearray") "__new__" = pure (some (.builtin "bytearray.__new__")) := by rw [typeLookup_type, builtinLookup_eq_fast]; kernel_rfl
theorem slot_init : Slot "bytearray" "__init__" "bytearray.__init__" :=
  .of (owner := "bytearray") (n := "__init__") (by rw [typeLookup_type, builtinLookup_eq_fast]; kernel_rfl) (by decide +kernel) (by decide +kernel) (by decide +kernel)
    (by first | exact .inl (by decide +kernel) | exact .inr (by decide +kernel)) (by rw [isSubtype_type]; kernel_rfl)
theorem called : TypeCalled "bytearray" "bytearray.__new__" "bytearray.__init__" :=
  ⟨by decide +kernel, by decide +kernel, ⟨_, _, mro⟩, madeBy_type mro lookup_new (by decide +kernel), by decide +kernel, by rw [isSubtype_type]; kernel_rfl, slot_init⟩
theorem typeCall : checkTypeCall "bytearray" ⟨[], []⟩ = pure () := by kernel_rfl
theorem newCall : checkBuiltinCall "bytearray.__new__" ⟨[.type "bytearray"], []⟩ = pure () := by kernel_rfl
theorem entry_new : entryFor table "bytearray.__new__" = some Builtin.«list.__new__» :=
  entryFor_alias (id' := "list.__new__") (by kernel_rfl) (by first | rfl | decide +kernel) (by decide +kernel) (by kernel_rfl)
theorem entry_init : entryFor table "bytearray.__init__" = some Builtin.«bytearray.__init__» := by first | exact entryFor_of_fast (by kernel_rfl) | exact entryFor_of_tree (by kernel_rfl)
theorem plain_new : plainId "bytearray.__new__" = true := by decide +kernel
theorem plain_init : plainId "bytearray.__init__" = true := by decide +kernel
theorem argsI (a : Value) : argsOk "bytearray.__init__" ⟨[a], []⟩ := by unfold argsOk; kernel_rfl
theorem owner : ("bytearray.__new__".splitOn ".__new__").headD "" = "bytearray" := by simp +decide [String.splitOn, String.splitOnAux]
theorem sub : isSubtype (.type "bytearray") (.type "bytearray") = pure true := by rw [isSubtype_type]; kernel_rfl
theorem rel : typeLookup (.type "bytearray") "__release_buffer__" = pure (some (.builtin "bytearray.__release_buffer__")) := by rw [typeLookup_type, builtinLookup_eq_fast]; kernel_rfl
section
variable {prog : Program} {w : World} {A : Around} {E : Value → Shared → Prop} {s : Shared}
theorem code_new {Q₁ : Value → Shared → Prop}
    (h : Q₁ (.ref s.heap.objs.size) { s with heap := s.heap.push { cls := .type "bytearray", data := .bytearray #[] } }) :
    codeAny (model prog w) A (.call (.builtin "bytearray.__new__") ⟨[.type "bytearray"], []⟩) (wants Q₁ E) s := by
  refine codeAny_of_tree ?_
  show wpAny _ A.in1 (do checkBuiltinCall "bytearray.__new__" ⟨[.type "bytearray"], []⟩; again (.builtin "bytearray.__new__" ⟨[.type "bytearray"], []⟩)) _ _ s
  refine wpAny_bind (wpAny_of_eq newCall (wpAny_pure ⟨plainId_quiet plain_new _, codeAny_builtin_stack entry_new rfl fun p st => ?_⟩))
  rw [Around.under_plainId plain_new _]
  have hsub := sub
  have hown := owner
  obtain ⟨hp, g, d, tk, os⟩ := s
  simp only [hown]
  wp_walk
  exact h
theorem endsR : ("bytearray.__release_buffer__".endsWith ("." ++ "__release_buffer__")) = true := by decide +kernel
theorem dropR : ("bytearray.__release_buffer__".dropRight ("__release_buffer__".length + 1)) = "bytearray" := by decide +kernel
theorem own_rel {M : Model} {a : Addr} {Q : Bool → Shared → Prop} (hT : s.TypeIs (.ref a) "bytearray") (h : Q false s) : wpAny M A (Builtin.Bytes.ownRelease (.ref a)) Q E s := by
  unfold Builtin.Bytes.ownRelease Builtin.Bytes.slotIsOwn
  refine wpAny_bind (wpAny_bind (wpAny_specialOf hT rel ?_))
  (try dsimp only)
  rw [endsR, dropR]
  refine bm_if_false rfl ?_
  exact wpAny_isInstance hT sub (wpAny_pure h)
theorem bindArgs0 : Builtin.Bytes.bindOptional "bytearray.__init__" "bytearray" ["source", "encoding", "errors"] [] [] = pure [none, none, none] := by kernel_rfl
open MineH in
theorem exp_no {A : Around} {a : Addr} {Q : Bool → Shared → Prop} {M : Model} (hg : A.guards = some []) (h : Q false s) : wpC M A (Builtin.Bytes.exported (.ref a)) Q E s := by
  unfold Builtin.Bytes.exported
  refine c_bind (c_stack fun st hst hd => ?_)
  refine c_pure ?_
  have e : guardsOf st = [] := hst _ hg
  have key : ∀ b : Bool, b = false → Q b s := fun b e => e ▸ h
  refine key _ (List.any_eq_false.mpr fun q hq => ?_)
  have g : q.1.isGuard = false := by
    cases z : q.1.isGuard with
    | false => rfl
    | true =>
      have : q.1 ∈ guardsOf st := List.mem_filter.mpr ⟨List.mem_map.mpr ⟨q, hq, rfl⟩, z⟩
      rw [e] at this; cases this
  have d := hd q hq
  clear hd hq e key h hst hg
  obtain ⟨c, ps⟩ := q
  cases c with
  | builtin id args =>
    have g' : guardIds.contains id = false := g
    have ne : ∀ n, guardIds.contains n = true → id ≠ n := fun n hn e => by subst e; rw [hn] at g'; cases g'
    have n1 := ne "bytearray.__contains__" (by decide +kernel)
    have n2 := ne "bytearray.__mod__" (by decide +kernel)
    have n3 := ne "bytearray.__rmod__" (by decide +kernel)
    have n4 := ne "_struct.pack_into.held" (by decide +kernel)
    have n5 := ne "bytearray.find.held" (by decide +kernel)
    clear ne g g'
    intro z
    delta Builtin.Bytes.exported.match_1 at z
    have z1 := (dif_neg n1).symm.trans z
    have z2 := (dif_neg n2).symm.trans z1
    have z3 := (dif_neg n3).symm.trans z2
    have z4 := (dif_neg n4).symm.trans z3
    have z5 := (dif_neg n5).symm.trans z4
    clear z z1 z2 z3 z4
    obtain ⟨pos, kw⟩ := args
    cases pos with
    | nil => exact Bool.false_ne_true z5
    | cons v r =>
      have d' : Builtin.Bytes.decodersThatHold.contains id = false := d
      have z6 : (Builtin.Bytes.sameRef v (.ref a) && Builtin.Bytes.decodersThatHold.contains id) = true := z5
      rw [d', Bool.and_false] at z6
      cases z6
  | _ => exact Bool.false_ne_true
open MineH in
theorem c_init {A : Around} {a : Addr} {Q : PySem.Fin → Shared → Prop} (hg : A.guards = some []) (ha : s.heap.get? a = some { cls := .type "bytearray", data := .bytearray #[] })
    (h : ∀ h', (∀ b, b ≠ a → h'.get? b = s.heap.get? b) → h'.get? a = some { cls := .type "bytearray", data := .bytearray #[] } → Q (.done (.ret .none)) { s with heap := h' }) :
    wpC (model prog w) A (Builtin.«bytearray.__init__» ⟨[.ref a], []⟩) Q E s := by
  have hT : s.TypeIs (.ref a) "bytearray" := ⟨_, ha, rfl⟩
  unfold Builtin.«bytearray.__init__»
  refine c_bind (c_any (own_rel hT ?_))
  refine c_off rfl ?_
  show wpC _ _ (Builtin.Bytes.bindOptional "bytearray.__init__" "bytearray" ["source", "encoding", "errors"] [] [] >>= _) _ _ _
  rw [bindArgs0]
  refine c_bind (c_pure ?_)
  (try dsimp only)
  refine c_bind (c_pure ?_)
  refine c_bind (c_pure ?_)
  refine c_bind (c_bind (exp_no hg ?_))
  show wpC _ _ ((load a >>= fun o => match o.data with | .bytearray _ n => pure n | _ => pure 0) >>= fun n => pure (decide (n > 0))) _ _ _
  refine c_bind (c_bind (c_any (wpAny_load ha (c_pure (c_pure ?_)))))
  refine c_off rfl ?_
  show wpC _ _ (updateBytearray a (fun _ => #[]) >>= _) _ _ _
  unfold updateBytearray
  refine c_bind (c_any (wpAny_bind (wpAny_load ha ?_)))
  (try dsimp only)
  refine wpAny_bind (wpAny_update ha ?_)
  have hu : (s.heap.update a (Obj.mapBytearray fun _ => #[])).get? a = some { cls := .type "bytearray", data := .bytearray #[] } := Heap.get?_update_self _ ha rfl
  refine wpAny_lookBehind hu rfl ?_
  refine c_bind (c_off rfl (c_off rfl (c_pure ?_)))
  exact c_pure (h _ (fun b hb => Heap.get?_update_other _ _ (Ne.symm hb)) hu)
open MineH in
theorem c_bytearray {A : Around} {Q : Value → Shared → Prop} (hg : A.guards = some [])
    (h : ∀ h', (∀ b o, s.heap.get? b = some o → h'.get? b = some o) → h'.get? s.heap.objs.size = some { cls := .type "bytearray", data := .bytearray #[] } → Q (.ref s.heap.objs.size) { s with heap := h' }) :
    wpC (model prog w) A (call (.type "bytearray") []) Q E s := by
  obtain ⟨c, tl, hmro⟩ := called.mro
  have hmade := called.made
  have hsub := called.sub
  refine c_call (cc_of_tree ?_)
  show wpC _ _ (callAny (.type "bytearray") _) _ _ _
  refine c_pure ⟨Code.quiet_builtin _ (by decide +kernel), (show Builtin.Bytes.decodersThatHold.contains "type.__call__" = false by decide +kernel), cc_builtin F.entry_type_call ?_⟩
  rw [Around.under_plain (weight_type_call_type "bytearray" [] []) rfl]
  have h1 := called.notType
  have h2 := called.canCreate
  unfold Builtin.«type.__call__»
  refine c_off h1 ?_
  (try dsimp only)
  refine c_off h2 ?_
  rw [typeCall]
  refine c_bind (c_pure ?_)
  rw [hmro]
  refine c_bind (c_pure ?_)
  refine c_off rfl ?_
  rw [hmade]
  refine c_bind (c_pure ?_)
  refine c_bind (c_pure ?_)
  refine c_bind (c_holding (c_any (wpAny_call (codeAny_mono (code_new (E := NoE) (Q₁ := fun obj s₁ => obj = .ref s.heap.objs.size ∧ s₁ = { s with heap := s.heap.push { cls := .type "bytearray", data := .bytearray #[] } }) ⟨rfl, rfl⟩) fun r s₁ hr => ?_))))
  rcases r with e | (v | _ | _ | _) <;> first | exact hr.elim | skip
  obtain ⟨rfl, rfl⟩ := hr
  have hB : (s.heap.push { cls := .type "bytearray", data := .bytearray #[] }).get? s.heap.objs.size = some { cls := .type "bytearray", data := .bytearray #[] } := Heap.get?_push_size _ rfl
  have hT : Shared.TypeIs { s with heap := s.heap.push { cls := .type "bytearray", data := .bytearray #[] } } (.ref s.heap.objs.size) "bytearray" := ⟨_, hB, rfl⟩
  (try dsimp only)
  refine c_bind (c_any (wpAny_isInstance hT sub ?_))
  refine c_off rfl ?_
  unfold callSpecial?
  refine c_bind (c_holding (c_bind (c_any (wpAny_specialOf hT slot_init.lookup ?_))))
  (try dsimp only)
  rw [slot_init.bind]
  refine c_holding (c_bind (c_pure (c_bind (c_mono (c_call (Q := fun v s' => v = .none ∧ Q (.ref s.heap.objs.size) s') (cc_call_builtin (plainId_quiet plain_init _) (show Builtin.Bytes.decodersThatHold.contains "bytearray.__init__" = false by decide +kernel) (slot_init.check _ _ _ _ _ _ _ _ hT (argsI _) (cc_builtin entry_init ?_)))) (fun v s' hv => ?_) fun _ _ z => z))))
  · rw [Around.under_plainId plain_init _]
    refine c_init (show A.guards = some [] from hg) hB fun h' hother hsame => ⟨rfl, h h' (fun b o e => (hother b (Nat.ne_of_lt (Heap.lt_size e))).trans (Heap.get?_push_of_some _ e)) hsame⟩
  · obtain ⟨rfl, hv⟩ := hv
    exact c_pure (c_off rfl (c_pure hv))
end
end BA

end CRS
section CIS
section
open MineH
noncomputable def SpecC (w : World) (k : Nat) (f : Addr) (args : List Value) (Pre : Heap → Prop) (Post : Heap → Heap → Value → Prop) : Prop :=
  ∀ (s : Shared) (Q E : Value → Shared → Prop) (dp un : Nat) (outer : List Env), Room k dp un → Wd w s.heap → Pre s.heap →
    (∀ v h' tk, Ext s.heap h' → Post s.heap h' v → Q v { s with heap := h', toks := tk }) → wpC (model PR w) (mkA dp un (some []) outer) (call (.ref f) args) Q E s
variable {w : World} {s : Shared} {Q E : Value → Shared → Prop} {n dp un : Nat} {gd : Option (List Code)} {outer : List Env}
  {name qual : Str} {params : Arguments} {body : List Stmt} {scope : Scope} {dV kV doc pm cdv ct oc : Value} {an od : Option Addr} {osl : Array (Option Value)} {f C : Addr} {args : List Value}
theorem cEnter {body₀ : List Stmt} {scope₀ : Scope} {binds : List (Str × Value)} (R : Room (n + 1) dp un) (X : Wd w s.heap)
    (ho : (hd.heap_39 w.params).lookup f = some ⟨oc, od, .func (fnOf name qual params body₀ scope₀ dV kV doc pm an cdv ct), osl⟩) (hbo : body₀ = body) (hso : scope₀ = scope) (hcd : codeIn (hd.heap_39 w.params) cdv qual = true)
    (hbind : BindsTo s (fnOf name qual params body₀ scope₀ dV kV doc pm an cdv ct) ⟨args, []⟩ binds) (hloc : ∀ y ∈ binds, scope.names.lookup y.1 = some .local)
    (h : ∀ L' h₁ mean mg mb, Fr s.heap L' h₁ (fun y => binds.reverse.lookup y) → News s.heap L' h₁ [] → (hd.heap_39 w.params).In s.heap → Top VW LS mean mg mb s.heap → Room n (dp + 1) (un + 3) →
      let env₉ := envOf qual scope L' f cdv
      let A₉ := mkA (dp + 1) (un + 3) gd (env₉ :: outer)
      wpC (model PR w) A₉ (execs body env₉)
        (fun fl s' => Q (match fl with | .ret v => v | _ => .none) s')
        (fun e s' => wpC (model PR w) A₉ (leaving env₉ e) (fun _ s'' => E e s'') (fun e' s'' => E e' s'') s')
        { s with heap := h₁, toks := s.toks + binds.length })
    (hco : scope.isCoroutine = false) (hgen : scope.isGenerator = false) (hk : scope.kind = .function)
    (hcell : ∀ x ∈ scope.names, x.2 ≠ .cell) : wpC (model PR w) (mkA dp un gd outer) (call (.ref f) args) Q E s := by
  obtain rfl := hbo.symm
  obtain rfl := hso.symm
  obtain ⟨mean, mg, mb, T⟩ := X.T
  refine c_call (cc_call_def (fd := fnOf name qual params body scope dV kV doc pm an cdv ct) (body := body) (binds := binds) (show dp < recursionLimit from Nat.lt_of_le_of_lt (Nat.le_add_right _ _) R.d)
    (X.X _ _ ho) rfl T.nolimit (codeRec_of X.X hcd) rfl hbind hcell hloc (fun h₁ hns hk₁ => ?_) hco hgen hk)
  exact h s.heap.objs.size h₁ mean mg mb ⟨hns, hk₁, Nat.le_refl _⟩ News.nil X.X T (R.deep (Nat.le_refl _))
theorem cEnterInit {body₀ : List Stmt} {scope₀ : Scope} {binds : Value → List (Str × Value)} (R : Room (n + 2) dp un) (X : Wd w s.heap) (hm : makesIn (hd.heap_39 w.params) C = true) (hi : findIn (hd.heap_39 w.params) (.ref C) "__init__" = some (some (.ref f))) (hf : isFn (hd.heap_39 w.params) (.ref f) = true)
    (ho : (hd.heap_39 w.params).lookup f = some ⟨oc, od, .func (fnOf name qual params body₀ scope₀ dV kV doc pm an cdv ct), osl⟩) (hbo : body₀ = body) (hso : scope₀ = scope) (hcd : codeIn (hd.heap_39 w.params) cdv qual = true)
    (hbind : ∀ x (s : Shared), BindsTo s (fnOf name qual params body₀ scope₀ dV kV doc pm an cdv ct) ⟨.ref x :: args, []⟩ (binds (.ref x))) (hloc : ∀ x, ∀ y ∈ binds (.ref x), scope.names.lookup y.1 = some .local)
    (h : ∀ x dx L' h₁ tk mean mg mb, Fr s.heap L' h₁ (fun y => (binds (.ref x)).reverse.lookup y) → News s.heap L' h₁ [(x, instObj C dx), (dx, dictOf [] 0)] → @LT.lt Nat _ dx x → (hd.heap_39 w.params).In s.heap → Top VW LS mean mg mb s.heap → Room n (dp + 2) (un + 4) →
      let env₉ := envOf qual scope L' f cdv
      let A₉ := mkA (dp + 2) (un + 4) gd (env₉ :: outer)
      wpC (model PR w) A₉ (execs body env₉)
        (fun fl s' => (match fl with | .ret v => v | _ => .none) = .none ∧ Q (.ref x) s')
        (fun e s' => wpC (model PR w) A₉ (leaving env₉ e) (fun _ s'' => E e s'') (fun e' s'' => E e' s'') s')
        { s with heap := h₁, toks := tk })
    (hco : scope.isCoroutine = false) (hgen : scope.isGenerator = false) (hk : scope.kind = .function)
    (hcell : ∀ x ∈ scope.names, x.2 ≠ .cell) : wpC (model PR w) (mkA dp un gd outer) (call (.ref C) args) Q E s := by
  obtain rfl := hbo.symm
  obtain rfl := hso.symm
  obtain ⟨mean, mg, mb, T⟩ := X.T
  obtain ⟨hh, gg, dd, tt, os⟩ := s
  refine c_call (cc_make (makes_of X.X hm) (looks_findIn X.X hi) (fun self => bind_fn X.X self (beq_iff_eq.mp hf)) (.inl rfl) ?_)
  have k2 : ∀ b o, hh.get? b = some o → ((hh.push emptyDict).push (instObj C hh.objs.size)).get? b = some o := fun b o e => Heap.get?_push_of_some _ (Heap.get?_push_of_some _ e)
  have fin := cc_call_def (prog := PR) (w := w) (A := (mkA dp un gd outer).under (.builtin "type.__call__" ⟨.ref C :: args, []⟩)) (s := ⟨(hh.push emptyDict).push (instObj C hh.objs.size), gg, dd, tt, os⟩)
    (R := InitBack (hh.objs.size + 1) fun r s' => match r with | .ok (.ret v) => Q v s' | .ok _ => False | .error e => E e s')
    (fd := fnOf name qual params body scope dV kV doc pm an cdv ct) (body := body) (binds := binds (.ref (hh.objs.size + 1))) (args := ⟨.ref (hh.objs.size + 1) :: args, []⟩)
    (show dp + 1 < recursionLimit from by have := R.d; (first | lia | omega)) (k2 _ _ (X.X _ _ ho)) rfl (T.nolimit.keeps k2) (codeRec_of (X.X.keeps k2) hcd) rfl (hbind _ _) hcell (hloc _) (fun h₁ hns hk₁ => ?_) hco hgen hk
  · exact fin
  · have F : Fr hh ((hh.push emptyDict).push (instObj C hh.objs.size)).objs.size h₁ (fun y => (binds (.ref (hh.objs.size + 1))).reverse.lookup y) := ⟨hns, fun b o e => hk₁ b o (k2 b o e), by rw [Heap.size_push, Heap.size_push]; (first | lia | omega)⟩
    have none_at : ∀ a, hh.objs.size ≤ a → hh.get? a = none := fun a ha => by
      cases e : hh.get? a with
      | none => rfl
      | some o => exact absurd (Heap.lt_size e) (Nat.not_lt.mpr ha)
    have N : News hh ((hh.push emptyDict).push (instObj C hh.objs.size)).objs.size h₁ [(hh.objs.size + 1, instObj C hh.objs.size), (hh.objs.size, dictOf [] 0)] := by
      intro p hp
      rcases List.mem_cons.mp hp with rfl | hp
      · refine ⟨hk₁ _ _ (by heap_get), ?_, none_at _ (by show _ ≤ hh.objs.size + 1; (first | lia | omega))⟩
        rw [Heap.size_push, Heap.size_push]
        show @Ne Nat (hh.objs.size + 1) _; (first | lia | omega)
      · rw [List.mem_singleton.mp hp]
        refine ⟨hk₁ _ _ (by heap_get), ?_, none_at _ (Nat.le_refl _)⟩
        rw [Heap.size_push, Heap.size_push]
        show @Ne Nat hh.objs.size _; (first | lia | omega)
    have R' : Room n (dp + 2) (un + 4) := ⟨by have := R.d; (first | lia | omega), by have := R.u; (first | lia | omega)⟩
    refine c_mono (h (hh.objs.size + 1) hh.objs.size _ h₁ _ mean mg mb F N (Nat.lt_succ_self _) X.X T R') (fun f s' z => ?_) fun _ _ z => z
    exact z
end

end CIS
section MsgS
noncomputable abbrev msD (w : World) (V : Nat → Value) (K : Nat → Tok) (g : Int) (tg : Tok) (n : Nat) : Obj := dictOf [en w "kind" (K 0) (V 0), en w "caller" (K 1) (V 1), en w "target" (K 2) (V 2), en w "code_address" (K 3) (V 3), en w "value" (K 4) (V 4), en w "told_value" (K 5) (V 5), en w "data" (K 6) (V 6), en w "gas" (K 7) (.int g tg), en w "is_static" (K 8) (V 8), en w "depth" (K 9) (V 9), en w "salt" (K 10) (V 10)] n
noncomputable abbrev PMsg (w : World) (g : Int) : Heap → Heap → Value → Prop := fun h h' v => ∃ x dx V K tg n, v = .ref x ∧ h.get? x = none ∧ h.get? dx = none ∧ h'.get? x = some (instObj 301 dx) ∧ h'.get? dx = some (msD w V K g tg n)
theorem retMsg {w : World} {s : Shared} {Q : Value → Shared → Prop} {L x dx : Addr} {h : Heap} {m : Str → Option Value} {tk : Nat} {news : List (Addr × Obj)} {g : Int} {tg : Tok} {n : Nat} {k0 k1 k2 k3 k4 k5 k6 k7 k8 k9 k10 : Tok} {v0 v1 v2 v3 v4 v5 v6 v8 v9 v10 : Value}
    (hQ : ∀ v h' tk, Ext s.heap h' → PMsg w g s.heap h' v → Q v { s with heap := h', toks := tk }) (F : Fr s.heap L h m) (N : News s.heap L h news) (hm : (x, instObj 301 dx) ∈ news)
    (hd : (dx, dictOf [en w "kind" k0 (v0), en w "caller" k1 (v1), en w "target" k2 (v2), en w "code_address" k3 (v3), en w "value" k4 (v4), en w "told_value" k5 (v5), en w "data" k6 (v6), en w "gas" k7 (.int g tg), en w "is_static" k8 (v8), en w "depth" k9 (v9), en w "salt" k10 (v10)] n) ∈ news) : Q (.ref x) { s with heap := h, toks := tk } :=
  hQ _ _ _ F.keep ⟨x, dx, fun i => ([v0, v1, v2, v3, v4, v5, v6, .none, v8, v9, v10] : List Value).getD i .none, fun i => ([k0, k1, k2, k3, k4, k5, k6, k7, k8, k9, k10] : List Tok).getD i 0, tg, n, rfl, news_fresh N hm, news_fresh N hd, (N _ hm).1, (N _ hd).1⟩
theorem message_spec {w : World} (gas : Int) (t1 t2 t3 t4 t5 t6 t7 t8 t9 t10 : Tok) : Spec w 2 301 [.str (Str.ofString "call") t1, .int 1 t2, .int 2 t3, .int 2 t4, .int 0 t5, .int 0 t6, .bytes #[] t7, .int gas t8, .bool false, .int 0 t9, .int 0 t10] (fun _ => True) (PMsg w gas) := by
  intro s Q E dp un gd outer hR hX hP hQ
  refine' enterInit (binds := fun x => [(Str.ofString "self", x), (Str.ofString "kind", .str (Str.ofString "call") t1), (Str.ofString "caller", .int 1 t2), (Str.ofString "target", .int 2 t3), (Str.ofString "code_address", .int 2 t4), (Str.ofString "value", .int 0 t5), (Str.ofString "told_value", .int 0 t6), (Str.ofString "data", .bytes #[] t7), (Str.ofString "gas", .int gas t8), (Str.ofString "is_static", .bool false), (Str.ofString "depth", .int 0 t9), (Str.ofString "salt", .int 0 t10)]) hR hX ?hm ?hi ?hf ?ho ?hB ?hS ?hcd ?hb ?hl ?_ ?h1 ?h2 ?h3 ?h4
  case hm => k_is
  case hi => k_is
  case hf => k_is
  case ho => k_is
  case hB => exact (rfl : List.cons _ _ = List.cons _ _)
  case hS => exact (rfl : Scope.mk _ _ _ _ _ = Scope.mk _ _ _ _ _)
  case hcd => k_is
  case hb => exact fun x s => BindsTo.of_eq rfl
  case hl => exact fun x => locs rfl
  case h1 => rfl
  case h2 => rfl
  case h3 => rfl
  case h4 => decide
  intro x dx L' h₁ tk mean mg mb F N lt X T R' env₉ A₉
  (try (conv in (occs := *) (stB _) => all_goals whnf)); (try (conv in (occs := *) (stS _) => all_goals whnf))
  (try dsimp only)
  k_fold
  k_extra "my words"
  refine' retMsg hQ (by assumption) (by assumption) ?m1 ?m2
  case m1 => k_mem
  case m2 => k_mem

end MsgS
section MemS
theorem c_bytearrayK {w : World} {A : Around} {E : Value → Shared → Prop} {s : Shared} {Q : Value → Shared → Prop} {h₀ : Heap} {L : Addr} {m : Str → Option Value} {news : List (Addr × Obj)} (hg : A.guards = some []) (F : Fr h₀ L s.heap m) (N : News h₀ L s.heap news)
    (h : ∀ a h', Fr h₀ L h' m → News h₀ L h' ((a, { cls := .type "bytearray", data := .bytearray #[] }) :: news) → AllNe a news → Q (.ref a) { s with heap := h' }) : wpC (model PR w) A (call (.type "bytearray") []) Q E s :=
  BA.c_bytearray hg fun h' hk hB => h _ h' (F.keeps hk) (news_pushed F N hk hB rfl) (allNe_of fun p hp => Nat.ne_of_lt (Heap.lt_size (N p hp).1))
theorem memory_spec {w : World} : SpecC w 3 280 [] (fun _ => True) PFresh := by
  intro s Q E dp un outer hR hX hP hQ
  refine' cEnterInit (binds := fun x => [(Str.ofString "self", x)]) (Room.le hR (by decide : 2 + 1 ≤ 3)) hX ?hm ?hi ?hf ?ho ?hB ?hS ?hcd ?hb ?hl ?_ ?h1 ?h2 ?h3 ?h4
  case hm => k_is
  case hi => k_is
  case hf => k_is
  case ho => k_is
  case hB => exact (rfl : List.cons _ _ = List.cons _ _)
  case hS => exact (rfl : Scope.mk _ _ _ _ _ = Scope.mk _ _ _ _ _)
  case hcd => k_is
  case hb => exact fun x s => BindsTo.of_eq rfl
  case hl => exact fun x => locs rfl
  case h1 => rfl
  case h2 => rfl
  case h3 => rfl
  case h4 => decide
  intro x dx L' h₁ tk mean mg mb F N lt X T R' env₉ A₉
  (try (conv in (occs := *) (stB _) => all_goals whnf)); (try (conv in (occs := *) (stS _) => all_goals whnf))
  (try dsimp only)
  refine c_execs_cons (c_assign_attr (c_call_name ?_) rfl)
  k_fold
  k_extra "my words"
  refine c_callWith (P := fun _ => True) rfl (fun h _ => ⟨.machine, .inr (.inl rfl), Looks.of_pure rfl⟩) (c_evalArgs_nil ⟨trivial, ?_⟩)
  refine c_bytearrayK rfl (by assumption) (by assumption) ?_
  intro ba h' F8 N8 l8
  (simp only [AllNe, and_true] at l8)
  k_extra "my words"
  refine c_any ?_
  k_extra "my words"
  refine' retD (s := s) (Q := Q) hQ (by assumption) (by assumption) ?m
  case m => k_mem

end MemS
section FrmS
section
variable {w : World} {s : Shared} {Q E : Value → Shared → Prop} {k n dp un : Nat} {gd : Option (List Code)} {outer : List Env} {f : Addr} {args : List Value} {Pre : Heap → Prop}
  {g : Heap} {L : Addr} {m : Str → Option Value} {news : List (Addr × Obj)} {mean : ExcName → Option Value} {mg mb : Str → Option Value}
theorem Spec.useD (S : Spec w k f args Pre PFresh) (R : Room n dp un) (F : Fr g L s.heap m) (N : News g L s.heap news) (X : (hd.heap_39 w.params).In g) (T : Top VW LS mean mg mb g) (hp : Pre s.heap) (hk : k ≤ n)
    (h : ∀ l o h' tk, Fr g L h' m → News g L h' ((l, o) :: news) → AllNe l news → Q (.ref l) { s with heap := h', toks := tk }) : wpAny (model PR w) (mkA dp un gd outer) (call (.ref f) args) Q E s :=
  S s Q E dp un gd outer (R.le hk) (Wd.at X T F) hp fun v h' tk hE P9 => by obtain ⟨l, o, e, hn, ho⟩ := P9; subst e; exact h l o h' tk (fr_ext F hE) (news_new F N hE hn ho) (news_ne N hn)
theorem SpecC.useD (S : SpecC w k f args Pre PFresh) (R : Room n dp un) (F : Fr g L s.heap m) (N : News g L s.heap news) (X : (hd.heap_39 w.params).In g) (T : Top VW LS mean mg mb g) (hp : Pre s.heap) (hk : k ≤ n)
    (h : ∀ l o h' tk, Fr g L h' m → News g L h' ((l, o) :: news) → AllNe l news → Q (.ref l) { s with heap := h', toks := tk }) : MineH.wpC (model PR w) (mkA dp un (some []) outer) (call (.ref f) args) Q E s :=
  S s Q E dp un outer (R.le hk) (Wd.at X T F) hp fun v h' tk hE P9 => by obtain ⟨l, o, e, hn, ho⟩ := P9; subst e; exact h l o h' tk (fr_ext F hE) (news_new F N hE hn ho) (news_ne N hn)
theorem hide_newsL {h h' : Heap} {L : Addr} {m : Str → Option Value} {W : List Addr} {cells olds : List (Addr × Obj)} (F : Fr h L h' m) (N : News h L h' cells) (ho : ∀ p ∈ olds, h.get? p.1 = some p.2) (hw : ∀ p ∈ olds, p.1 ∈ W) : News (hideAll h W) L h' (cells ++ olds) := by
  intro p hp
  rcases List.mem_append.mp hp with hp | hp
  · have q := N p hp
    refine ⟨q.1, q.2.1, ?_⟩
    cases z : (hideAll h W).get? p.1 with
    | none => rfl
    | some o' => have := of_hideAll _ z; rw [q.2.2] at this; cases this
  · exact ⟨F.keep _ _ (ho p hp), Nat.ne_of_lt (Nat.lt_of_lt_of_le (Heap.lt_size (ho p hp)) F.above), hideAll_none _ (hw p hp)⟩
end
noncomputable abbrev PFr (w : World) (g : Int) : Heap → Heap → Value → Prop := fun h h' v => ∃ x dx st, v = .ref x ∧ h.get? x = none ∧ h.get? dx = none ∧ h.get? st = none ∧ FrAt w h' x dx st g []
theorem retFr {w : World} {s : Shared} {Q : Value → Shared → Prop} {L x dx ST mx mdx : Addr} {h : Heap} {m : Str → Option Value} {tk : Nat} {news : List (Addr × Obj)} {g : Int} {tg : Tok} {n n2 : Nat} {o1 o2 : Obj} {k0 k1 k2 k3 k4 k5 k6 k7 k8 k9 k10 : Tok} {v0 v1 v3 v4 v6 v7 v8 v9 v10 : Value}
    (hQ : ∀ v h' tk, Ext s.heap h' → PFr w g s.heap h' v → Q v { s with heap := h', toks := tk }) (e1 : s.heap.get? mx = some o1) (e2 : s.heap.get? mdx = some o2) (hnot : ∀ a, a = x ∨ a = dx ∨ a = ST → a ≠ mx ∧ a ≠ mdx) (F : Fr (hideAll s.heap [mx, mdx]) L h m) (N : News (hideAll s.heap [mx, mdx]) L h news)
    (hx : (x, instObj 357 dx) ∈ news) (hd : (dx, dictOf [en w "message" k0 (v0), en w "code" k1 (v1), en w "stack" k2 (.ref ST), en w "memory" k3 (v3), en w "pc" k4 (v4), en w "gas" k5 (.int g tg), en w "returned" k6 (v6), en w "output" k7 (v7), en w "jumps" k8 (v8), en w "is_done" k9 (v9), en w "word" k10 (v10)] n) ∈ news) (hs : (ST, listOf ([] : List Value).toArray n2) ∈ news) (h1 : (mx, o1) ∈ news) (h2 : (mdx, o2) ∈ news) : Q (.ref x) { s with heap := h, toks := tk } := by
  have fresh : ∀ a o, (a, o) ∈ news → a ≠ mx ∧ a ≠ mdx → s.heap.get? a = none := fun a o hm ne => by
    cases z : s.heap.get? a with
    | none => rfl
    | some o' =>
      have q := hideAll_get [mx, mdx] z (by simp only [List.mem_cons, List.not_mem_nil, or_false]; rintro (q | q); exact ne.1 q; exact ne.2 q)
      rw [(N _ hm).2.2] at q; cases q
  refine hQ _ _ _ (fun b o e => ?_) ⟨x, dx, ST, rfl, fresh _ _ hx (hnot _ (.inl rfl)), fresh _ _ hd (hnot _ (.inr (.inl rfl))), fresh _ _ hs (hnot _ (.inr (.inr rfl))), fun i => ([v0, v1, .none, v3, v4, .none, v6, v7, v8, v9, v10] : List Value).getD i .none, fun i => ([k0, k1, k2, k3, k4, k5, k6, k7, k8, k9, k10] : List Tok).getD i 0, tg, n, [], n2, (N _ hx).1, (N _ hd).1, (N _ hs).1, .nil⟩
  by_cases q1 : b = mx
  · subst q1; rw [e1] at e; cases e; exact (N _ h1).1
  · by_cases q2 : b = mdx
    · subst q2; rw [e2] at e; cases e; exact (N _ h2).1
    · exact F.keep b o (hideAll_get _ e (by simp only [List.mem_cons, List.not_mem_nil, or_false]; rintro (q | q); exact q1 q; exact q2 q))
theorem reg43 : True := by
  k_with "call ref" => ((k_here; (fail_if_success (fail_if_success (with_reducible show wpAny _ _ (call (Value.ref 186) _) _ _ _))); k_dflt (refine' Spec.useD (jump_places_spec _) ?kR ?kF ?kN ?kX ?kT ?kp ?kk ?_; k_extra "my ctx"; (case kp => trivial); (case kk => decide); k_whole); intro l' o' h' tk' F' N' l1; (try (dsimp only [AllNe] at l1)); (try k_sweep)))
  k_with "setAttr ref" => ((k_here; k_dflt (refine' set_dict ?k1 ?k2 ?k3 ?k4 ?k5 ?k6 ?k7 ?k8 ?k9 ?k10 ?k11 ?k12 ?k13 ?_; (case k1 => k_asm); (case k2 => k_asm); (case k3 => k_asm); (case k4 => k_inst); (case k5 => exact rfl); (case k6 => k_is); (case k7 => k_is); (case k8 => k_is); (case k9 => k_is); (case k10 => k_get); (case k11 => k_put); (case k12 => k_upd); (case k13 => exact Nat.le_of_ble_eq_true rfl); k_whole; intro h' F' N'); (try k_sweep)))
  trivial
theorem frame_new_spec {w : World} (mx mdx : Addr) (V : Nat → Value) (K : Nat → Tok) (g : Int) (tg t : Tok) (n : Nat) : SpecC w 6 357 [.ref mx, .bytes #[] t] (fun h => h.get? mx = some (instObj 301 mdx) ∧ h.get? mdx = some (msD w V K g tg n) ∧ Wd w (hideAll h [mx, mdx])) (PFr w g) := by
  rintro s Q E dp un outer hR hX ⟨hP1, hP2, hP3⟩ hQ
  have hmm : @Ne Nat mx mdx := fun e => by
    have e' : mx = mdx := e
    rw [e', hP2] at hP1
    have e2 := congrArg (fun o => o.map Obj.cls) hP1
    simp at e2
  refine' cEnterInit (n := 4) (binds := fun x => [(Str.ofString "self", x), (Str.ofString "message", .ref mx), (Str.ofString "code", .bytes #[] t)]) hR hX ?hm ?hi ?hf ?ho ?hB ?hS ?hcd ?hb ?hl ?_ ?h1 ?h2 ?h3 ?h4
  case hm => k_is
  case hi => k_is
  case hf => k_is
  case ho => k_is
  case hB => exact (rfl : List.cons _ _ = List.cons _ _)
  case hS => exact (rfl : Scope.mk _ _ _ _ _ = Scope.mk _ _ _ _ _)
  case hcd => k_is
  case hb => exact fun x s => BindsTo.of_eq rfl
  case hl => exact fun x => locs rfl
  case h1 => rfl
  case h2 => rfl
  case h3 => rfl
  case h4 => decide
  intro x dx L' h₁ tk mean mg mb F N lt X T R' env₉ A₉
  (try (conv in (occs := *) (stB _) => all_goals whnf)); (try (conv in (occs := *) (stS _) => all_goals whnf))
  have F2 := hide_fr3 F [mx, mdx]
  have N2 := hide_newsL (W := [mx, mdx]) (olds := [(mx, instObj 301 mdx), (mdx, msD w V K g tg n)]) F N (List.forall_mem_cons.mpr ⟨hP1, List.forall_mem_cons.mpr ⟨hP2, List.forall_mem_nil _⟩⟩) (List.forall_mem_cons.mpr ⟨.head _, List.forall_mem_cons.mpr ⟨.tail _ (.head _), List.forall_mem_nil _⟩⟩)
  have ne : ∀ a b o, s.heap.get? a = none → s.heap.get? b = some o → @Ne Nat a b := fun a b o e1 e2 q => by
    have q' : a = b := q
    rw [q', e2] at e1; cases e1
  have hx0 : s.heap.get? x = none := (N _ (.head _)).2.2
  have hd0 : s.heap.get? dx = none := (N _ (.tail _ (.head _))).2.2
  have n1 := ne _ _ _ hx0 hP1
  have n2 := ne _ _ _ hx0 hP2
  have n3 := ne _ _ _ hd0 hP1
  have n4 := ne _ _ _ hd0 hP2
  obtain ⟨X2, mean2, mg2, mb2, T2⟩ := hP3
  clear F N X T ne
  simp only [List.cons_append, List.nil_append] at N2
  (try dsimp only)
  refine c_execs_cons (c_any ?_)
  k_fold
  k_extra "my words"
  refine c_execs_cons (c_any ?_)
  k_extra "my words"
  refine c_execs_cons (c_any ?_)
  k_extra "my words"
  refine c_execs_cons (c_assign_attr (c_call_name ?_) rfl)
  k_extra "my words"
  refine c_callWith (P := fun h => (hd.heap_39 w.params).In h) rfl (keeps_K (by k_is)) (c_evalArgs_nil ⟨?_, ?_⟩)
  case refine_1 => exact X2.keeps (Fr.keep (by assumption))
  refine' SpecC.useD memory_spec ?kR ?kF ?kN ?kX ?kT ?kp ?kk ?_
  case kR => assumption
  case kF => assumption
  case kN => assumption
  case kX => assumption
  case kT => assumption
  case kp => trivial
  case kk => decide
  intro l' o' h' tk' F' N' l1
  (dsimp only [AllNe] at l1)
  k_extra "my words"
  refine c_any ?_
  k_extra "my words"
  refine' retFr (s := s) (Q := Q) hQ hP1 hP2 ?hnot (by assumption) ?N ?hx ?hd ?hs ?m1 ?m2
  case N => assumption
  case hx => k_mem
  case hd => k_mem
  case hs => k_mem
  case m1 => k_mem
  case m2 => k_mem
  case hnot =>
    intro a ha
    rcases ha with e | e | e
    · rw [e]; exact ⟨n1, n2⟩
    · rw [e]; exact ⟨n3, n4⟩
    · rw [e]; exact ⟨by k_ne, by k_ne⟩

end FrmS
section LfrS
section
variable {w : World} {s : Shared} {Q E : Value → Shared → Prop} {k n dp un : Nat} {gd : Option (List Code)} {outer : List Env} {f : Addr} {args : List Value} {Pre : Heap → Prop}
  {g : Heap} {L : Addr} {m : Str → Option Value} {news : List (Addr × Obj)} {mean : ExcName → Option Value} {mg mb : Str → Option Value}
theorem Spec.useMsg {gas : Int} (S : Spec w k f args Pre (PMsg w gas)) (R : Room n dp un) (F : Fr g L s.heap m) (N : News g L s.heap news) (X : (hd.heap_39 w.params).In g) (T : Top VW LS mean mg mb g) (hp : Pre s.heap) (hk : k ≤ n)
    (h : ∀ x dx V K tg nn h' tk, Fr g L h' m → News g L h' ((x, instObj 301 dx) :: (dx, msD w V K gas tg nn) :: news) → AllNe x news → AllNe dx news → @Ne Nat x dx → Q (.ref x) { s with heap := h', toks := tk }) : wpAny (model PR w) (mkA dp un gd outer) (call (.ref f) args) Q E s :=
  S s Q E dp un gd outer (R.le hk) (Wd.at X T F) hp fun v h' tk hE P9 => by
    obtain ⟨x, dx, V, K, tg, nn, e, hx, hd, ox, od⟩ := P9
    subst e
    have ne : @Ne Nat x dx := fun q => by
      have q' : x = dx := q
      rw [q', od] at ox
      have e2 := congrArg (fun o => o.map Obj.cls) ox
      simp at e2
    have N1 := news_new F N hE hd od
    refine h x dx V K tg nn h' tk (fr_ext F hE) ?_ (news_ne N hx) (news_ne N hd) ne
    intro p hp
    rcases List.mem_cons.mp hp with rfl | hp
    · exact news_new F N hE hx ox _ (.head _)
    · exact N1 p hp
theorem SpecC.useFrN {gas : Int} {mx mdx : Addr} {V₀ : Nat → Value} {K₀ : Nat → Tok} {tg₀ : Tok} {n₀ : Nat} (S : SpecC w k f args (fun h => h.get? mx = some (instObj 301 mdx) ∧ h.get? mdx = some (msD w V₀ K₀ gas tg₀ n₀) ∧ Wd w (hideAll h [mx, mdx])) (PFr w gas)) (R : Room n dp un) (F : Fr g L s.heap m) (N : News g L s.heap news) (X : (hd.heap_39 w.params).In g) (T : Top VW LS mean mg mb g)
    (h1 : (mx, instObj 301 mdx) ∈ news) (h2 : (mdx, msD w V₀ K₀ gas tg₀ n₀) ∈ news) (hk : k ≤ n)
    (h : ∀ x dx st V K tg nn n2 h' tk, Fr g L h' m → News g L h' ((x, instObj 357 dx) :: (dx, frD w V K st gas tg nn) :: (st, listOf ([] : List Value).toArray n2) :: news) → AllNe x news → AllNe dx news → AllNe st news → @Ne Nat x dx ∧ @Ne Nat x st ∧ @Ne Nat dx st → Q (.ref x) { s with heap := h', toks := tk }) :
    MineH.wpC (model PR w) (mkA dp un (some []) outer) (call (.ref f) args) Q E s := by
  have N1 := N _ h1
  have N2 := N _ h2
  have k0 : Ext g (hideAll s.heap [mx, mdx]) := fun b o e => by
    refine hideAll_get _ (F.keep b o e) fun hm => ?_
    simp only [List.mem_cons, List.not_mem_nil, or_false] at hm
    rcases hm with rfl | rfl
    · rw [N1.2.2] at e; cases e
    · rw [N2.2.2] at e; cases e
  refine S s Q E dp un outer (R.le hk) (Wd.at X T F) ⟨N1.1, N2.1, X.keeps k0, _, _, _, T.keeps k0⟩ fun v h' tk hE P9 => ?_
  obtain ⟨x, dx, st, e, hx, hd, hs, V, K, tg, nn, vs, n2, ox, od, os, hi⟩ := P9
  subst e
  obtain rfl : vs = [] := by
    have := hi.length
    exact List.length_eq_zero_iff.mp this
  refine h x dx st V K tg nn n2 h' tk (fr_ext F hE) ?_ (news_ne N hx) (news_ne N hd) (news_ne N hs) (fr_ne ox od os)
  intro p hp
  rcases List.mem_cons.mp hp with rfl | hp
  · exact news_new F N hE hx ox _ (.head _)
  rcases List.mem_cons.mp hp with rfl | hp
  · exact news_new F N hE hd od _ (.head _)
  rcases List.mem_cons.mp hp with rfl | hp
  · exact news_new F N hE hs os _ (.head _)
  · exact news_new F N hE hx ox p (.tail _ hp)
end
noncomputable abbrev PFrW (w : World) (g : Int) (rs : List Int) : Heap → Heap → Value → Prop := fun h h' v => ∃ x dx st, v = .ref x ∧ h.get? x = none ∧ h.get? dx = none ∧ h.get? st = none ∧ FrAt w h' x dx st g rs
theorem retFrW {w : World} {s : Shared} {Q : Value → Shared → Prop} {L x dx ST : Addr} {h : Heap} {m : Str → Option Value} {tk : Nat} {news : List (Addr × Obj)} {g : Int} {rs : List Int} {tg : Tok} {n n2 : Nat} {V : Nat → Value} {K : Nat → Tok} {vs : List Value}
    (hQ : ∀ v h' tk, Ext s.heap h' → PFrW w g rs s.heap h' v → Q v { s with heap := h', toks := tk }) (F : Fr s.heap L h m) (N : News s.heap L h news)
    (hx : (x, instObj 357 dx) ∈ news) (hd : (dx, frD w V K ST g tg n) ∈ news) (hs : (ST, listOf vs.toArray n2) ∈ news) (hi : IntsAre vs rs.reverse) : Q (.ref x) { s with heap := h, toks := tk } :=
  hQ _ _ _ F.keep ⟨x, dx, ST, rfl, news_fresh N hx, news_fresh N hd, news_fresh N hs, V, K, tg, n, vs, n2, (N _ hx).1, (N _ hd).1, (N _ hs).1, hi⟩
theorem put_stack {w : World} (V : Nat → Value) (K : Nat → Tok) (ST : Addr) (g : Int) (tg : Tok) (n : Nat) (h : Int) (key v : Value) :
    (putL (Str.ofString "stack") h key v [en w "message" (K 0) (V 0), en w "code" (K 1) (V 1), en w "stack" (K 2) (.ref ST), en w "memory" (K 3) (V 3), en w "pc" (K 4) (V 4), en w "gas" (K 5) (.int g tg), en w "returned" (K 6) (V 6), en w "output" (K 7) (V 7), en w "jumps" (K 8) (V 8), en w "is_done" (K 9) (V 9), en w "word" (K 10) (V 10)], putN (Str.ofString "stack") [en w "message" (K 0) (V 0), en w "code" (K 1) (V 1), en w "stack" (K 2) (.ref ST), en w "memory" (K 3) (V 3), en w "pc" (K 4) (V 4), en w "gas" (K 5) (.int g tg), en w "returned" (K 6) (V 6), en w "output" (K 7) (V 7), en w "jumps" (K 8) (V 8), en w "is_done" (K 9) (V 9), en w "word" (K 10) (V 10)] n)
      = ([en w "message" (K 0) (V 0), en w "code" (K 1) (V 1), en w "stack" (K 2) v, en w "memory" (K 3) (V 3), en w "pc" (K 4) (V 4), en w "gas" (K 5) (.int g tg), en w "returned" (K 6) (V 6), en w "output" (K 7) (V 7), en w "jumps" (K 8) (V 8), en w "is_done" (K 9) (V 9), en w "word" (K 10) (V 10)], n) := by rfl
theorem reg44 : True := by
  k_with "setAttr ref" => ((k_here; k_dflt (refine' set_dict ?k1 ?k2 ?k3 ?k4 ?k5 ?k6 ?k7 ?k8 ?k9 ?k10 ?k11 ?k12 ?k13 ?_; (case k1 => k_asm); (case k2 => k_asm); (case k3 => k_asm); (case k4 => k_inst); (case k5 => exact rfl); (case k6 => k_is); (case k7 => k_is); (case k8 => k_is); (case k9 => k_is); (case k10 => k_get); (case k11 => exact put_stack _ _ _ _ _ _ _ _ _); (case k12 => k_upd); (case k13 => exact Nat.le_of_ble_eq_true rfl); k_whole; intro h' F' N')))
  k_with "call ref" => ((k_here; (fail_if_success (fail_if_success (with_reducible show wpAny _ _ (call (Value.ref 301) _) _ _ _))); k_dflt (refine' Spec.useMsg (message_spec _ _ _ _ _ _ _ _ _ _ _) ?kR ?kF ?kN ?kX ?kT ?kp ?kk ?_; k_extra "my ctx"; (case kp => trivial); (case kk => decide); k_whole); intro mx mdx V' K' tg' nn' h' tk' F' N' l1 l2 l3; (try (dsimp only [AllNe] at l1 l2))))
  trivial
theorem law_frame_spec {w : World} (l : Addr) (ws : List Int) (g : Int) (t : Tok) : SpecC w 8 698 [.ref l, .int g t] (fun h => IsL h l ws ∧ ws.length ≤ 10) (PFrW w g (ws ++ [5])) := by
  rintro s Q E dp un outer hR hX ⟨hP, hlen⟩ hQ
  obtain ⟨vs, hl, hi⟩ := hP.list
  have hvl := hi.length
  refine' cEnter (n := 7) (binds := [(Str.ofString "words_here", .ref l), (Str.ofString "gas", .int g t)]) hR hX ?ho ?hB ?hS ?hcd ?hb ?hl ?_ ?h1 ?h2 ?h3 ?h4
  case ho => k_is
  case hB => exact (rfl : List.cons _ _ = List.cons _ _)
  case hS => exact (rfl : Scope.mk _ _ _ _ _ = Scope.mk _ _ _ _ _)
  case hcd => k_is
  case hb => exact BindsTo.of_eq rfl
  case hl => exact locs rfl
  case h1 => rfl
  case h2 => rfl
  case h3 => rfl
  case h4 => decide
  intro L' h₁ mean mg mb F N X T R' env₉ A₉
  (try (conv in (occs := *) (stB _) => all_goals whnf)); (try (conv in (occs := *) (stS _) => all_goals whnf))
  (try dsimp only)
  refine c_execs_cons (c_assign_name (c_call_name ?_) rfl)
  k_fold
  k_extra "my words"
  refine c_callPlain (P := fun h => (hd.heap_39 w.params).In h) (keeps_K (by k_is)) (c_any ?_) rfl rfl
  k_extra "my words"
  refine' SpecC.useFrN (frame_new_spec _ _ _ _ _ _ _ _) ?kR ?kF ?kN ?kX ?kT ?k1 ?k2 ?kk ?_
  case kR => assumption
  case kF => assumption
  case kN => assumption
  case kX => assumption
  case kT => assumption
  case k1 => k_mem
  case k2 => k_mem
  case kk => decide
  intro x dx st V K tg nn n2 h' tk F' N' l1 l2 l3 l4
  obtain ⟨l4, l5, l6⟩ := l4
  (dsimp only [AllNe] at l1 l2 l3)
  dsimp only [frD, en] at N'
  refine c_any ?_
  k_extra "my words"
  refine c_any ?_
  k_extra "my words"
  (try dsimp only)
  have e5 : (ws ++ [5]).reverse = [5] ++ ws.reverse := by simp
  refine' retFrW (s := s) (Q := Q) hQ (by assumption) ?N ?hx ?hd ?hs ?hi
  case N => assumption
  case hx => k_mem
  case hd => k_mem
  case hs => k_mem
  case hi => (rw [e5]; assumption)

end LfrS
section D26S
section
variable {w : World} {A : Around} {E : Value → Shared → Prop} {s : Shared} {h₀ : Heap} {L : Addr} {m : Str → Option Value}
noncomputable abbrev SK (w : World) : PySem.KeyKind PR w Str := PySem.strKind PR w
theorem stored_fresh {kvs : List (Str × Value)} {k : Str} {v : Value} (h : k ∉ kvs.map (·.1)) : stored kvs k v = kvs ++ [(k, v)] := by
  unfold stored
  rw [if_neg]
  rw [List.any_eq_true]
  rintro ⟨kv, hkv, he⟩
  exact h (List.mem_map.mpr ⟨kv, hkv, of_decide_eq_true he⟩)
theorem put_fresh {d : Addr} {kvs : List (Str × Value)} {k : Str} {key v : Value} {Q : Unit → Shared → Prop} (hkey : (SK w).is k key = true) (hm : s.heap.DictOf (SK w) d kvs) (hnot : k ∉ kvs.map (·.1)) (hsz : kvs.length ≤ sizeLine)
    (hQ : ∀ h', h'.DictOf (SK w) d (kvs ++ [(k, v)]) → Heap.SameBut d s.heap h' → Q () { s with heap := h' }) : wpAny (model PR w) A (dictPut d ((SK w).hash k) key v) Q E s := by
  obtain ⟨o, es, ep, ho, hc, hd, hk, hp, hn⟩ := hm
  have hes : es.size ≤ sizeLine := by
    have e1 := hp.length
    have e2 : es.toList.length = es.size := by simp
    (first | lia | omega)
  unfold dictPut
  refine wpAny_bind (wpAny_dictFind_of hkey ho hd hk ?_)
  have hidx : (es.findIdx? fun e => (SK w).is k e.key) = kvs.findIdx? fun kv => decide (kv.1 = k) := by
    rw [← hp.findIdx k]; obtain ⟨l⟩ := es; simp
  have hi : (es.findIdx? fun e => (SK w).is k e.key) = none := by
    rw [hidx]
    exact List.findIdx?_eq_none_iff.mpr fun kv hkv => decide_eq_false fun e => hnot (List.mem_map.mpr ⟨kv, hkv, e⟩)
  rw [hi]
  refine wpAny_updateDictKeys (hz := hes) ho hd (hQ _ ⟨_, _, ep + 1, Heap.get?_update_self _ ho (Obj.isFreed_of_dict (Obj.data_mapDictKeys hd _)), hc.mapDictKeys _, Obj.data_mapDictKeys hd _, hk.push hkey _, ?_, ?_⟩ (Heap.SameBut.update ..))
  · have := hp.append hkey ((SK w).hash k) v
    obtain ⟨l⟩ := es
    simpa using this
  · rw [List.map_append, List.nodup_append]
    refine ⟨hn, by simp, ?_⟩
    intro a ha b hb
    simp only [List.map_cons, List.map_nil, List.mem_singleton] at hb
    subst hb
    exact fun e => hnot (e ▸ ha)
noncomputable def Tells (w : World) (A : Around) (E : Value → Shared → Prop) (h₀ : Heap) (L : Addr) (m : Str → Option Value) (t : Sem Value) (P : Value → Prop) : Prop :=
  ∀ (s : Shared) (Q : Value → Shared → Prop), Fr h₀ L s.heap m → (∀ v tk, P v → Q v { s with toks := tk }) → wpAny (model PR w) A t Q E s
inductive TellsAll (w : World) (A : Around) (E : Value → Shared → Prop) (h₀ : Heap) (L : Addr) (m : Str → Option Value) : List (Sem Value × Sem Value) → List (Str × Value) → Prop
  | nil : TellsAll w A E h₀ L m [] []
  | cons {k v : Sem Value} {x : Str} {y : Value} {ps xs} : Tells w A E h₀ L m k (fun a => ∃ t, a = .str x t) → Tells w A E h₀ L m v (fun a => a = y) → TellsAll w A E h₀ L m ps xs → TellsAll w A E h₀ L m ((k, v) :: ps) ((x, y) :: xs)
theorem is_str (x : Str) (t : Tok) : (SK w).is x (.str x t) = true := by show Value.isStrOf x (.str x t) = true; simp [Value.isStrOf]
theorem long_loop {d : Addr} (hdL : d ≠ L) (hd0 : h₀.get? d = none) {ps : List (Sem Value × Sem Value)} {xs : List (Str × Value)} (T : TellsAll w A E h₀ L m ps xs) :
    ∀ (s : Shared) (kvs : List (Str × Value)) (Q : Unit → Shared → Prop), Fr h₀ L s.heap m → s.heap.DictOf (SK w) d kvs → ((kvs ++ xs).map (·.1)).Nodup → kvs.length + xs.length ≤ 1000 →
      (∀ h' tk, Fr h₀ L h' m → h'.DictOf (SK w) d (kvs ++ xs) → Heap.SameBut d s.heap h' → Q () { s with heap := h', toks := tk }) →
      wpAny (model PR w) A (forIn ps PUnit.unit fun x _ => do
              let kv ← x.fst
              let vv ← holding [kv] x.snd
              holding [kv, vv] (dictSet d kv vv)
              pure (ForInStep.yield PUnit.unit)) Q E s := by
  induction T with
  | nil =>
    intro s kvs Q F D _ _ h
    rw [List.forIn_nil]
    exact wpAny_pure (h s.heap s.toks F (by simpa using D) (Heap.SameBut.refl ..))
  | cons hk hv _ ih =>
    rename_i k v x y ps xs tt
    intro s kvs Q F D nd hl h
    rw [List.forIn_cons]
    refine wpAny_bind (wpAny_bind (hk s _ F fun a tk ha => ?_))
    obtain ⟨t, ha⟩ := ha
    subst ha
    refine wpAny_bind (wpAny_holding (hv { s with toks := tk } _ F fun b tk2 hb => ?_))
    rw [hb]
    clear hb
    have hnot : x ∉ kvs.map (·.1) := by
      rw [List.map_append, List.map_cons, List.nodup_append] at nd
      intro hx
      exact nd.2.2 _ hx _ (List.mem_cons_self ..) rfl
    refine wpAny_bind (wpAny_holding (wpAny_dictSet_pairs (is_str x t) D (fun h' D' hs => ?_) (by rw [sizeLine_eq]; simp only [List.length_cons] at hl; (first | lia | omega))))
    rw [stored_fresh hnot] at D'
    refine wpAny_pure ?_
    have F' := F.change hs hdL hd0
    refine ih { s with heap := h', toks := tk2 + 1 } (kvs ++ [(x, y)]) Q F' D' (by simpa using nd) (by simp only [List.length_append, List.length_cons, List.length_nil] at *; (first | lia | omega)) fun h2 tk3 F2 D2 hs2 => ?_
    exact h h2 tk3 F2 (by simpa using D2) (hs.trans hs2)
theorem pairs_loop {d : Addr} (hdL : d ≠ L) (hd0 : h₀.get? d = none) : ∀ (xs : List (Str × Value)) (vs : List (Value × Value)), vs.length = xs.length → (∀ (i : Nat) p q, vs[i]? = some p → xs[i]? = some q → p.2 = q.2 ∧ ∃ t, p.1 = .str q.1 t) →
    ∀ (s : Shared) (kvs : List (Str × Value)) (Q : Unit → Shared → Prop), Fr h₀ L s.heap m → s.heap.DictOf (SK w) d kvs → ((kvs ++ xs).map (·.1)).Nodup → kvs.length + xs.length ≤ 1000 →
      (∀ h' tk, Fr h₀ L h' m → h'.DictOf (SK w) d (kvs ++ xs) → Heap.SameBut d s.heap h' → Q () { s with heap := h', toks := tk }) →
      wpAny (model PR w) A (forIn vs PUnit.unit fun x _ => do
              dictSet d x.fst x.snd
              pure (ForInStep.yield PUnit.unit)) Q E s
  | [], [], _, _, s, kvs, Q, F, D, _, _, h => by
    rw [List.forIn_nil]
    exact wpAny_pure (h s.heap s.toks F (by simpa using D) (Heap.SameBut.refl ..))
  | [], _ :: _, hl, _, _, _, _, _, _, _, _, _ => by cases hl
  | _ :: _, [], hl, _, _, _, _, _, _, _, _, _ => by cases hl
  | (x, y) :: xs, (a, b) :: vs, hl, hp, s, kvs, Q, F, D, nd, hn, h => by
    have hp0 := hp 0 (a, b) (x, y) rfl rfl
    obtain ⟨e, t, e2⟩ := id hp0
    have e' : b = y := e
    have e2' : a = .str x t := e2
    rw [e', e2', List.forIn_cons]
    clear e e2 e' e2' hp0
    have hnot : x ∉ kvs.map (·.1) := by
      rw [List.map_append, List.map_cons, List.nodup_append] at nd
      intro hx
      exact nd.2.2 _ hx _ (List.mem_cons_self ..) rfl
    refine wpAny_bind (wpAny_bind (wpAny_dictSet_pairs (is_str x t) D (fun h' D' hs => ?_) (by rw [sizeLine_eq]; simp only [List.length_cons] at hn; (first | lia | omega))))
    rw [stored_fresh hnot] at D'
    refine wpAny_pure ?_
    have F' := F.change hs hdL hd0
    refine pairs_loop hdL hd0 xs vs (by simpa using hl) (fun i p q e1 e2 => hp (i + 1) p q (by simpa using e1) (by simpa using e2)) { s with heap := h', toks := s.toks + 1 } (kvs ++ [(x, y)]) Q F' D' (by simpa using nd) (by simp only [List.length_append, List.length_cons, List.length_nil] at *; (first | lia | omega)) fun h2 tk3 F2 D2 hs2 => ?_
    exact h h2 tk3 F2 (by simpa using D2) (hs.trans hs2)
theorem evalPairs_tell {ps : List (Sem Value × Sem Value)} {xs : List (Str × Value)} (T : TellsAll w A E h₀ L m ps xs) : ∀ (s : Shared) (Q : List (Value × Value) → Shared → Prop), Fr h₀ L s.heap m →
      (∀ vs tk, vs.length = xs.length → (∀ (i : Nat) p q, vs[i]? = some p → xs[i]? = some q → p.2 = q.2 ∧ ∃ t, p.1 = .str q.1 t) → Q vs { s with toks := tk }) → wpAny (model PR w) A (evalPairs ps) Q E s := by
  induction T with
  | nil => intro s Q F h; exact wpAny_pure (h [] s.toks rfl fun i p q e => by simp at e)
  | cons hk hv _ ih =>
    rename_i k v x y ps xs tt
    intro s Q F h
    rw [evalPairs]
    refine wpAny_bind (hk s _ F fun a tk ha => ?_)
    obtain ⟨t, rfl⟩ := ha
    refine wpAny_bind (wpAny_holding (hv { s with toks := tk } _ F fun b tk2 hb => ?_))
    subst hb
    refine wpAny_bind (wpAny_holding (ih { s with toks := tk2 } _ F fun vs tk3 hl hp => wpAny_pure (h _ tk3 (by simp [hl]) ?_)))
    intro i p q e1 e2
    cases i with
    | zero => simp only [List.getElem?_cons_zero, Option.some.injEq] at e1 e2; subst e1 e2; exact ⟨rfl, t, rfl⟩
    | succ i => exact hp i p q (by simpa using e1) (by simpa using e2)
theorem merge_loop {d b : Addr} {ob : Obj} {es : Array DictEntry} {ep : Nat} {kvs2 : List (Str × Value)} (hdb : d ≠ b) (hdL : d ≠ L) (hd0 : h₀.get? d = none) (hd : ob.data = .dict es ep) (hk : KeysOf (SK w) es) (hp : Pairs (SK w) es.toList kvs2) :
    ∀ (j i : Nat) (s : Shared) (Q : Unit → Shared → Prop) (kvs : List (Str × Value)), i + j = es.size → Fr h₀ L s.heap m → s.heap.get? b = some ob → s.heap.DictOf (SK w) d (kvs ++ kvs2.take i) → ((kvs ++ kvs2).map (·.1)).Nodup → kvs.length + kvs2.length ≤ 1000 →
      (∀ h' tk, Fr h₀ L h' m → h'.DictOf (SK w) d (kvs ++ kvs2) → Heap.SameBut d s.heap h' → Q () { s with heap := h', toks := tk }) →
      wpAny (model PR w) A (forIn (List.range' i j) PUnit.unit fun i _ => do
                let x ← dictEntries b
                match x[i]? with
                | some e => do
                  holding [e.key, e.val] (dictPut d e.hash e.key e.val)
                  let y ← dictEpoch b
                  if (y != ep) = true then do
                      unsupported "dict.changed-during-merge"
                      pure (ForInStep.yield PUnit.unit)
                    else pure (ForInStep.yield PUnit.unit)
                | _ => do
                  unsupported "dict.changed-during-merge"
                  pure (ForInStep.yield PUnit.unit)) Q E s := by
  have hlen : kvs2.length = es.size := by have := hp.length; rw [← this]; simp
  intro j
  induction j with
  | zero =>
    intro i s Q kvs hij F hb D nd hl h
    rw [List.range'_zero, List.forIn_nil]
    have e : kvs2.take i = kvs2 := List.take_of_length_le (by (first | lia | omega))
    rw [e] at D
    exact wpAny_pure (h s.heap s.toks F D (Heap.SameBut.refl ..))
  | succ j ih =>
    intro i s Q kvs hij F hb D nd hl h
    rw [List.range'_succ, List.forIn_cons]
    have hi : i < es.size := by (first | lia | omega)
    have he : es[i]? = some es[i] := Array.getElem?_eq_getElem hi
    obtain ⟨q, hq⟩ : ∃ q, kvs2[i]? = some q := ⟨kvs2[i]'(by (first | lia | omega)), List.getElem?_eq_getElem (by (first | lia | omega))⟩
    have pq : (SK w).is q.1 es[i].key = true ∧ es[i].val = q.2 := by
      have all : ∀ {l : List DictEntry} {k : List (Str × Value)}, Pairs (SK w) l k → ∀ (i : Nat) e q, l[i]? = some e → k[i]? = some q → (SK w).is q.1 e.key = true ∧ e.val = q.2 := by
        intro l k P
        induction P with
        | nil => intro i e q h; simp at h
        | cons h1 h2 _ ih =>
          intro i e q e1 e2
          cases i with
          | zero => simp only [List.getElem?_cons_zero, Option.some.injEq] at e1 e2; subst e1 e2; exact ⟨h1, h2⟩
          | succ i => exact ih i e q (by simpa using e1) (by simpa using e2)
      exact all hp i _ q (by rw [Array.getElem?_toList]; exact he) hq
    obtain ⟨kk, hkk, hh⟩ := hk es[i] (Array.getElem_mem hi)
    have hkq : kk = q.1 := (SK w).inj _ _ _ hkk pq.1
    subst hkq
    have hnot : q.1 ∉ (kvs ++ kvs2.take i).map (·.1) := by
      have e2 : kvs2 = kvs2.take i ++ q :: kvs2.drop (i + 1) := by
        have this : kvs2[i]'(by (first | lia | omega)) = q := by have := List.getElem?_eq_getElem (l := kvs2) (i := i) (by (first | lia | omega)); rw [hq] at this; exact (Option.some.inj this).symm
        have e9 := List.drop_eq_getElem_cons (l := kvs2) (i := i) (by (first | lia | omega))
        rw [this] at e9
        rw [← e9, List.take_append_drop]
      rw [e2, ← List.append_assoc, List.map_append, List.map_cons, List.nodup_append] at nd
      intro hx
      exact nd.2.2 _ hx _ (List.mem_cons_self ..) rfl
    refine wpAny_bind (wpAny_bind (wpAny_dictEntries hb hd ?_))
    rw [he]
    (try dsimp only)
    rw [hh]
    refine wpAny_bind (wpAny_holding (put_fresh pq.1 D hnot (by rw [sizeLine_eq, List.length_append, List.length_take]; (first | lia | omega)) fun h' D' hs => ?_))
    have hb' : h'.get? b = some ob := hs.extBut b ob (fun e => hdb e.symm) hb
    refine wpAny_bind (wpAny_dictEpoch hb' hd ?_)
    rw [if_neg (by simp)]
    refine wpAny_pure ?_
    have F' := F.change hs hdL hd0
    rw [pq.2, List.append_assoc] at D'
    have e3 : kvs2.take i ++ [(q.1, q.2)] = kvs2.take (i + 1) := by rw [List.take_add_one, hq]; rfl
    rw [e3] at D'
    exact ih (i + 1) { s with heap := h' } Q kvs (by (first | lia | omega)) F' hb' D' nd hl fun h2 tk F2 D2 hs2 => h h2 tk F2 D2 (hs.trans hs2)
theorem iterD : typeLookup (.type "dict") "__iter__" = pure (some (.builtin "dict.__iter__")) := by rw [typeLookup_type, builtinLookup_eq_fast]; kernel_rfl
theorem subD : isSubtype (.type "dict") (.type "dict") = pure true := by rw [isSubtype_type]; kernel_rfl
theorem merge_all {d b : Addr} {kvs kvs2 : List (Str × Value)} {Q : Unit → Shared → Prop} (hdb : d ≠ b) (hdL : d ≠ L) (hd0 : h₀.get? d = none) (hb : (b == sysModules) = false) (F : Fr h₀ L s.heap m) (D : s.heap.DictOf (SK w) d kvs) (D2 : s.heap.DictOf (SK w) b kvs2) (hne : kvs ≠ []) (nd : ((kvs ++ kvs2).map (·.1)).Nodup) (hl : kvs.length + kvs2.length ≤ 1000)
    (h : ∀ h' tk, Fr h₀ L h' m → h'.DictOf (SK w) d (kvs ++ kvs2) → Heap.SameBut d s.heap h' → Q () { s with heap := h', toks := tk }) : wpAny (model PR w) A (mergeMapping d (.ref b) false) Q E s := by
  obtain ⟨ob, es, ep, hob, hc, hd, hk, hp, hn⟩ := D2
  obtain ⟨od, ed, epd, hod, hcd, hdd, hkd, hpd, hnd⟩ := id D
  have hT : s.TypeIs (.ref b) "dict" := ⟨ob, hob, hc.1⟩
  have hds : ed.isEmpty = false := by
    have := hpd.length
    cases kvs with
    | nil => exact absurd rfl hne
    | cons _ _ =>
      simp only [Array.length_toList, List.length_cons] at this
      rw [Array.isEmpty_eq_false_iff]
      intro e
      rw [e] at this
      simp at this
  unfold mergeMapping
  refine wpAny_bind (wpAny_isInstance hT subD ?_)
  refine bm_if_true rfl ?_
  refine wpAny_bind (wpAny_specialOf hT iterD ?_)
  have et : (some (Value.builtin "dict.__iter__") == some (.builtin "dict.__iter__")) = true := by decide
  rw [et]
  refine wpAny_bind (wpAny_pure ?_)
  (try dsimp only)
  refine bm_if_false hb ?_
  refine wpAny_bind (wpAny_dictEntries hod hdd ?_)
  refine bm_if_false hds ?_
  refine wpAny_bind (wpAny_dictEntries hob hd ?_)
  refine wpAny_bind (wpAny_dictEpoch hob hd ?_)
  simp only [Bool.false_eq_true, if_false]
  refine wpAny_bind ?_
  rw [List.range_eq_range']
  refine merge_loop hdb hdL hd0 hd hk hp es.size 0 s _ kvs (by (first | lia | omega)) F hob (by simpa using D) nd hl fun h' tk F' D' hs => wpAny_pure (h h' tk F' D' hs)
end
theorem sem_pb {α β : Type} (a : α) (f : α → Sem β) : (pure a >>= f) = f a := rfl
theorem sem_ba {α β γ : Type} (m : Sem α) (f : α → Sem β) (g : β → Sem γ) : ((m >>= f) >>= g) = (m >>= fun a => f a >>= g) := Sem.bind_assoc ..
noncomputable abbrev keyed (l : List (Sem Value × Sem Value)) : List (Option (Sem Value) × Sem Value) := l.map fun p => (some p.1, p.2)
theorem disp_fill {σ : Type} {body : Option (Sem Value) × Sem Value → σ × List (Sem Value × Sem Value) → Sem (ForInStep (σ × List (Sem Value × Sem Value)))}
    (hb : ∀ k v main run, ((run ++ [(k, v)]).length == 17) = false → body (some k, v) (main, run) = pure (.yield (main, run ++ [(k, v)]))) (rest : List (Option (Sem Value) × Sem Value)) (main : σ) :
    ∀ (l run : List (Sem Value × Sem Value)), run.length + l.length ≤ 16 → forIn (keyed l ++ rest) (main, run) body = forIn rest (main, run ++ l) body
  | [], run, _ => by rw [List.append_nil]; rfl
  | p :: l, run, h => by
    have h1 : run.length + 1 + l.length ≤ 16 := (Nat.add_right_comm run.length 1 l.length).symm ▸ h
    have h2 : (run ++ [(p.1, p.2)]).length = run.length + 1 := List.length_append
    show forIn ((some p.1, p.2) :: (keyed l ++ rest)) (main, run) body = _
    rw [List.forIn_cons, hb _ _ _ _ (h2 ▸ beq_false_of_ne (Nat.ne_of_lt (Nat.lt_succ_of_le (Nat.le_trans (Nat.le_add_right _ _) h1)))), sem_pb]
    exact (disp_fill hb rest main l _ (h2 ▸ h1)).trans (by rw [List.append_assoc]; rfl)
theorem display17 (l : List (Sem Value × Sem Value)) (k v : Sem Value) (r : List (Sem Value × Sem Value)) (h : l.length = 16) (h2 : r.length ≤ 16) (h3 : r.isEmpty = false) : dictDisplay (keyed l ++ (some k, v) :: (keyed r ++ [])) = (do
  let d ← subDict (l ++ [(k, v)])
  let sub ← holding [.ref d] (subDict r)
  (holding [.ref d, .ref sub] (mergeMapping d (.ref sub) false)).onRaise fun x => do let _ ← holding [.ref d, x] (runValue (.builtin "proto.let_go" {}))
  pure (.ref d)) := by
  have e : (l ++ [(k, v)]).isEmpty = false := by cases l <;> rfl
  have e2 : ((l ++ [(k, v)]).length == 17) = true := by rw [List.length_append, h]; rfl
  unfold dictDisplay
  refine (congrArg (· >>= _) (disp_fill (fun k v main run hk => if_neg (by rw [hk]; decide)) _ _ l [] (by rw [h]; decide))).trans ?_
  rw [List.forIn_cons]
  refine (congrArg (fun z => (z >>= _) >>= _) ((if_pos e2).trans (congrArg (· >>= _) (if_neg (by rw [List.nil_append, e]; decide))))).trans ?_
  rw [sem_ba, sem_ba, sem_ba]
  refine congrArg (_ >>= ·) (funext fun d => ?_)
  refine (congrArg (· >>= _) (disp_fill (fun k v main run hk => if_neg (by rw [hk]; decide)) _ _ r [] (by simpa using h2))).trans ?_
  have e3 : ¬ (([] : List (Sem Value × Sem Value)) ++ r).isEmpty = true := by rw [List.nil_append, h3]; decide
  rw [List.forIn_nil, sem_pb]
  dsimp only
  rw [if_neg e3, sem_ba]
  refine congrArg (_ >>= ·) (funext fun a => ?_)
  rw [sem_ba]
  rfl
section
variable {w : World} {A : Around} {E : Value → Shared → Prop} {s : Shared} {h₀ : Heap} {L : Addr} {m : Str → Option Value}
theorem dictOf_push {h : Heap} {o : Obj} (he : o = { cls := .type "dict", data := .dict #[] }) : (h.push o).DictOf (SK w) h.objs.size [] := by
  subst he; exact Heap.DictOf.new h
theorem subLong {ps : List (Sem Value × Sem Value)} {xs : List (Str × Value)} (T : TellsAll w A E h₀ L m ps xs) (F : Fr h₀ L s.heap m) (hn : ¬ ps.length ≤ 15) (nd : (xs.map (·.1)).Nodup) (hl : xs.length ≤ 1000) {Q : Addr → Shared → Prop}
    (h : ∀ d h' tk, Fr h₀ L h' m → h'.DictOf (SK w) d xs → s.heap.get? d = none → Heap.SameBut d (s.heap.push { cls := .type "dict", data := .dict #[] }) h' → d = s.heap.objs.size → Q d { s with heap := h', toks := tk }) : wpAny (model PR w) A (subDict ps) Q E s := by
  unfold subDict
  simp only [hn, if_false]
  refine wpAny_bind (wpAny_alloc ?_)
  have F1 := F.push { cls := .type "dict", data := .dict #[] }
  have none0 : h₀.get? s.heap.objs.size = none := none_at_size F
  have hL : @Ne Nat s.heap.objs.size L := Nat.ne_of_gt F.ns.lt
  have gone : s.heap.get? s.heap.objs.size = none := by
    cases e : s.heap.get? s.heap.objs.size with
    | none => rfl
    | some o => exact absurd (Heap.lt_size e) (Nat.lt_irrefl _)
  refine wpAny_bind (wpAny_holding (wpAny_bind (wpAny_rule (wpAny_bind (long_loop hL none0 T { s with heap := s.heap.push { cls := .type "dict", data := .dict #[] } } [] _ F1 (dictOf_push rfl) (by simpa using nd) (by simpa using hl) fun h' tk F' D' hs => wpAny_pure (wpAny_pure ?_))))))
  exact h _ h' tk F' (by simpa using D') gone hs rfl
theorem subShort {ps : List (Sem Value × Sem Value)} {xs : List (Str × Value)} (T : TellsAll w A E h₀ L m ps xs) (F : Fr h₀ L s.heap m) (hn : ps.length ≤ 15) (nd : (xs.map (·.1)).Nodup) (hl : xs.length ≤ 1000) {Q : Addr → Shared → Prop}
    (h : ∀ d h' tk, Fr h₀ L h' m → h'.DictOf (SK w) d xs → s.heap.get? d = none → Heap.SameBut d (s.heap.push { cls := .type "dict", data := .dict #[] }) h' → d = s.heap.objs.size → Q d { s with heap := h', toks := tk }) : wpAny (model PR w) A (subDict ps) Q E s := by
  unfold subDict
  simp only [hn, if_true]
  refine wpAny_bind (wpAny_alloc ?_)
  have F1 := F.push { cls := .type "dict", data := .dict #[] }
  have none0 : h₀.get? s.heap.objs.size = none := none_at_size F
  have hL : @Ne Nat s.heap.objs.size L := Nat.ne_of_gt F.ns.lt
  have gone : s.heap.get? s.heap.objs.size = none := by
    cases e : s.heap.get? s.heap.objs.size with
    | none => rfl
    | some o => exact absurd (Heap.lt_size e) (Nat.lt_irrefl _)
  refine wpAny_bind (wpAny_holding (wpAny_bind (evalPairs_tell T { s with heap := s.heap.push { cls := .type "dict", data := .dict #[] } } _ F1 fun vs tk0 hlv hpv => wpAny_holding (wpAny_bind (pairs_loop hL none0 xs vs hlv hpv { s with heap := s.heap.push { cls := .type "dict", data := .dict #[] }, toks := tk0 } [] _ F1 (dictOf_push rfl) (by simpa using nd) (by simpa using hl) fun h' tk F' D' hs => wpAny_pure (wpAny_pure ?_))))))
  exact h _ h' tk F' (by simpa using D') gone hs rfl
end

end D26S
section AriS
noncomputable abbrev arithA : List (Str × Value) := [(Str.ofString "ADD", .ref 375), (Str.ofString "MUL", .ref 382), (Str.ofString "SUB", .ref 389), (Str.ofString "DIV", .ref 396), (Str.ofString "SDIV", .ref 403), (Str.ofString "MOD", .ref 410), (Str.ofString "SMOD", .ref 417), (Str.ofString "ADDMOD", .ref 424), (Str.ofString "MULMOD", .ref 431), (Str.ofString "EXP", .ref 438), (Str.ofString "SIGNEXTEND", .ref 445), (Str.ofString "LT", .ref 452), (Str.ofString "GT", .ref 459), (Str.ofString "SLT", .ref 466), (Str.ofString "SGT", .ref 473), (Str.ofString "EQ", .ref 480), (Str.ofString "ISZERO", .ref 487)]
noncomputable abbrev arithB : List (Str × Value) := [(Str.ofString "AND", .ref 494), (Str.ofString "OR", .ref 501), (Str.ofString "XOR", .ref 508), (Str.ofString "NOT", .ref 515), (Str.ofString "BYTE", .ref 522), (Str.ofString "SHL", .ref 529), (Str.ofString "SHR", .ref 536), (Str.ofString "SAR", .ref 543), (Str.ofString "KECCAK256", .ref 550)]
theorem arith_nd : ((arithA ++ arithB).map (·.1)).Nodup := by decide +kernel
theorem arith_ndA : (arithA.map (·.1)).Nodup := by decide +kernel
theorem arith_ndB : (arithB.map (·.1)).Nodup := by decide +kernel
noncomputable abbrev PArith (w : World) : Heap → Heap → Value → Prop := fun h h' v => ∃ d, v = .ref d ∧ h.get? d = none ∧ (d == sysModules) = false ∧ h'.DictOf (SK w) d (arithA ++ arithB)
section
variable {w : World} {A : Around} {E : Value → Shared → Prop} {s : Shared} {h₀ : Heap} {L a : Addr} {m : Str → Option Value} {cn : Str} {cs : Scope} {ccd : Value} {mean : ExcName → Option Value} {mg mb : Str → Option Value}
theorem display_wp {M : Model} {Q : Value → Shared → Prop} {k0 v0 k1 v1 k2 v2 k3 v3 k4 v4 k5 v5 k6 v6 k7 v7 k8 v8 k9 v9 k10 v10 k11 v11 k12 v12 k13 v13 k14 v14 k15 v15 k16 v16 k17 v17 k18 v18 k19 v19 k20 v20 k21 v21 k22 v22 k23 v23 k24 v24 k25 v25 : Sem Value} (h : wpAny M A (do
  let d ← subDict [(k0, v0), (k1, v1), (k2, v2), (k3, v3), (k4, v4), (k5, v5), (k6, v6), (k7, v7), (k8, v8), (k9, v9), (k10, v10), (k11, v11), (k12, v12), (k13, v13), (k14, v14), (k15, v15), (k16, v16)]
  let sub ← holding [.ref d] (subDict [(k17, v17), (k18, v18), (k19, v19), (k20, v20), (k21, v21), (k22, v22), (k23, v23), (k24, v24), (k25, v25)])
  (holding [.ref d, .ref sub] (mergeMapping d (.ref sub) false)).onRaise fun x => do let _ ← holding [.ref d, x] (runValue (.builtin "proto.let_go" {}))
  pure (.ref d)) Q E s) : wpAny M A (dictDisplay [(some k0, v0), (some k1, v1), (some k2, v2), (some k3, v3), (some k4, v4), (some k5, v5), (some k6, v6), (some k7, v7), (some k8, v8), (some k9, v9), (some k10, v10), (some k11, v11), (some k12, v12), (some k13, v13), (some k14, v14), (some k15, v15), (some k16, v16), (some k17, v17), (some k18, v18), (some k19, v19), (some k20, v20), (some k21, v21), (some k22, v22), (some k23, v23), (some k24, v24), (some k25, v25)]) Q E s :=
  (display17 [(k0, v0), (k1, v1), (k2, v2), (k3, v3), (k4, v4), (k5, v5), (k6, v6), (k7, v7), (k8, v8), (k9, v9), (k10, v10), (k11, v11), (k12, v12), (k13, v13), (k14, v14), (k15, v15)] k16 v16 [(k17, v17), (k18, v18), (k19, v19), (k20, v20), (k21, v21), (k22, v22), (k23, v23), (k24, v24), (k25, v25)] rfl (Nat.le_of_ble_eq_true rfl) rfl).symm ▸ h
theorem eval_Dict_wp {M : Model} {keys : List (Option PySem.Expr)} {values : List PySem.Expr} {pos : Pos} {env : Env} {Q : Value → Shared → Prop} (h : wpAny M A (dictDisplay ((evalEachOpt keys env).zip ((evalEach values env).map fun v => do let x ← v; standAt pos; pure x))) Q E s) : wpAny M A (eval (.Dict keys values pos) env) Q E s := by
  rw [arm_eval_Dict]
  exact wpAny_bind (wpAny_standAt h)
theorem tell_const {env : Env} {x : Str} {k : Nat} {pos : Pos} : Tells w A E h₀ L m (eval (.Constant (.str x) k pos) env) (fun a => ∃ t, a = .str x t) := fun s Q F h => wpAny_Constant_str (h _ _ ⟨_, rfl⟩)
theorem tell_name {x : Str} {pos pos' : Pos} {v : Value} (X : (hd.heap_39 w.params).In h₀) (T : Top VW LS mean mg mb h₀) (e : nsIn (hd.heap_39 w.params) mainGlobals x = some (some v))
    (hk : cs.kind = .function) (hx : cs.names.lookup x = some .globalImplicit) (hd : (x == ("__debug__" : Str)) = false) :
    Tells w A E h₀ L m (do let y ← eval (.Name x pos) (envOf cn cs L a ccd); standAt pos'; pure y) (fun a => a = v) := fun s Q F h =>
  wpAny_bind (name_K F X (by k_asm) e (wpAny_bind (wpAny_standAt (wpAny_pure (h v s.toks rfl)))) hk hx hd)
end
theorem reg45 : True := by
  k_with "my tells" => (first | with_reducible exact TellsAll.nil | (with_reducible refine' TellsAll.cons tell_const (tell_name ?X ?T ?e ?hk ?hx ?hd) ?_; (case X => assumption); (case T => assumption); (case e => k_is); (case hk => rfl); (case hx => decide +kernel); (case hd => decide +kernel); k_extra "my tells"))
  trivial
theorem arithmetic_spec {w : World} : Spec w 1 557 [] (fun _ => True) (PArith w) := by
  intro s Q E dp un gd outer hR hX hP hQ
  refine' enter0 (binds := []) hR ?X ?ho ?hcd ?hb ?hl ?_ ?h1 ?h2 ?h3 ?h4
  case X => assumption
  case ho => k_is
  case hcd => k_is
  case hb => exact BindsTo.of_eq rfl
  case hl => exact Eq.refl true
  case h1 => rfl
  case h2 => rfl
  case h3 => rfl
  case h4 => exact Eq.refl true
  intro L' h₁ tk₁ mean mg mb F N X T R'
  (try (conv in (occs := *) (stB _) => all_goals whnf)); (try (conv in (occs := *) (stS _) => all_goals whnf))
  refine wpAny_execs_cons ?_
  refine wpAny_Return_some ?_
  refine eval_Dict_wp ?_
  simp only [evalEachOpt, evalEach, evalOpt, List.map_cons, List.map_nil, List.zip_cons_cons, List.zip_nil_right]
  with_reducible refine display_wp ?_
  have hlow := modules_low T.nolimit
  with_reducible refine wpAny_bind ?_
  with_reducible refine' subLong (xs := arithA) ?t1 F ?a1 arith_ndA ?a3 ?a4
  case t1 => k_extra "my tells"
  case a1 => (simp only [List.length_cons, List.length_nil]; decide)
  case a3 => decide
  intro d h2 tk2 F2 D2 n2 hs2 e2
  with_reducible refine wpAny_bind ?_
  with_reducible refine wpAny_holding ?_
  with_reducible refine' subShort (xs := arithB) ?t2 F2 ?b1 arith_ndB ?b3 ?b4
  case t2 => k_extra "my tells"
  case b1 => (simp only [List.length_cons, List.length_nil]; decide)
  case b3 => decide
  intro b h3 tk3 F3 D3 n3 hs3 e3
  have hdb : d ≠ b := by
    obtain ⟨o, es, ep, ho, _⟩ := id D2
    intro e
    rw [e, n3] at ho
    cases ho
  have hdL : d ≠ L' := by rw [e2]; exact Nat.ne_of_gt F.ns.lt
  have hd0 : s.heap.get? d = none := by rw [e2]; exact none_at_size F
  have hbL : b ≠ L' := by rw [e3]; exact Nat.ne_of_gt F2.ns.lt
  have hbs : (b == sysModules) = false := by
    apply beq_eq_false_iff_ne.mpr
    intro e
    have q := Nat.le_of_lt (Nat.lt_of_le_of_lt F2.above F2.ns.lt)
    rw [← e, e3] at hlow
    exact absurd hlow (Nat.not_lt.mpr q)
  have hds : (d == sysModules) = false := by
    apply beq_eq_false_iff_ne.mpr
    intro e
    have q := Nat.le_of_lt (Nat.lt_of_le_of_lt F.above F.ns.lt)
    rw [← e, e2] at hlow
    exact absurd hlow (Nat.not_lt.mpr q)
  have D2' : h3.DictOf (SK w) d arithA := by
    obtain ⟨o, es, ep, ho, h5⟩ := id D2
    exact ⟨o, es, ep, hs3.extBut d o hdb (Heap.get?_push_of_some _ ho), h5⟩
  refine wpAny_bind (wpAny_onRaise (wpAny_holding (merge_all hdb hdL hd0 hbs F3 D2' D3 (by simp) arith_nd (by decide) ?_)))
  intro h4 tk4 F4 D4 hs4
  refine wpAny_pure ?_
  exact hQ _ _ _ F4.keep ⟨d, rfl, hd0, hds, D4⟩

end AriS
section OpxS
theorem reg46 : True := by
  k_with "call ref" => ((k_here; (fail_if_success (fail_if_success (with_reducible show wpAny _ _ (call (Value.ref 207) _) _ _ _))); k_dflt (refine' Spec.useI (exp_cost_spec _ _ ?s0) ?kR ?kF ?kN ?kX ?kT ?kp ?kk ?_; k_extra "my std"; (case s0 => k_extra "my arg"); (case kk => decide); k_whole); intro t' h' tk' F' N'; (try k_sweep)))
  trivial
theorem op_exp_spec {w : World} (FR D ST : Addr) (g a b : Int) (ha0 : 0 ≤ a) (ha1 : a < WORD) (hb0 : 0 ≤ b) (hb1 : b < WORD) (hg : (50 * (((Builtin.Int.intBits b : Int) + 7).fdiv 8)) ≤ g) : FSpec w 5 438 [.none, .ref FR] FR D ST g [a, b, 5] (g - (50 * (((Builtin.Int.intBits b : Int) + 7).fdiv 8))) [(a ^ b.toNat).fmod WORD, 5] (fun v => v = .none) := by
  k_extra "my opA"
  k_extra "my opB"

end OpxS
section SES
section
open Builtin Builtin.ObjectAttr
variable {w : World} {A : Around} {E : Value → Shared → Prop} {s : Shared} {K : Frag} {x C : Addr} {name : Str} {v : Value} {vs : Array Value}
noncomputable abbrev excTail : List Value := [.type "Exception", .type "BaseException", .type "object"]
theorem refuse_exc (self : Value) : refuseLoop self "__setattr__" excTail = pure () := by kernel_rfl
theorem refuse_own (self : Value) : ∀ {l : List Value}, (∃ p, l = p ++ excTail ∧ ∀ c ∈ p, ∃ a, c = Value.ref a) → refuseLoop self "__setattr__" l = pure () := by
  rintro l ⟨p, rfl, hp⟩
  induction p with
  | nil => exact refuse_exc self
  | cons c p ih =>
    obtain ⟨a, rfl⟩ := hp c (.head _)
    rw [List.cons_append, refuseLoop_ref]
    exact ih fun c hc => hp c (.tail _ hc)
noncomputable def excCls (K : Frag) (C : Addr) : Prop := ∃ cd p, clsIn K C = some cd ∧ cd.hasDict = true ∧ cd.mro = p ++ excTail ∧ ∀ c ∈ p, ∃ a, c = Value.ref a
theorem osa_exc {tk : Tok} {R : Except Value Flow → Shared → Prop} (X : K.In s.heap) (hx : s.heap.get? x = some ⟨.ref C, none, .fields vs, #[]⟩) (hp : excCls K C) (ht : takerIn K C name = some none)
    (h : ∀ h' d od, (∀ b o, s.heap.get? b = some o → b ≠ x → h'.get? b = some o) → h'.get? x = some ⟨.ref C, some d, .fields vs, #[]⟩ → s.heap.get? d = none → h'.get? d = some od → R (.ok (.ret .none)) { s with heap := h', toks := s.toks + 1 }) :
    codeAny (model PR w) A (.call (.builtin "object.__setattr__") ⟨[.ref x, .str name tk, v], []⟩) R s := by
  obtain ⟨cd, p, hc, hdict, hmro, hrefs⟩ := hp
  have I : InstAt s.heap x ⟨.ref C, none, .fields vs, #[]⟩ C none := ⟨hx, rfl, rfl, trivial⟩
  have SF := PySem.F.store_object
  have ne : cd.mro.isEmpty = false := by rw [hmro]; cases p <;> rfl
  have has : cd.mro.contains (.type "object") = true := by
    rw [hmro, List.contains_iff_mem]
    exact List.mem_append_right _ (by decide)
  have sub : Looks (model PR w) s.heap (isInstance (.ref x) (.type "object")) true := I.type.andThen (looks_mroIn X (by unfold mroIn; rw [hc, Option.bind_some, if_neg (by rw [ne]; decide), has]))
  refine codeAny_call_builtin SF.slot.plain SF.entry (@check_slot (model PR w) _ _ s "object.__setattr__" "object" "__setattr__" (.ref x) [.str name tk, v] [] _ SF.kind SF.split sub (SF.args (.ref x) (.str name tk) v) ?_)
  obtain ⟨attr, ha, hr⟩ := Option.bind_eq_some_iff.mp ht
  have hm : Looks (model PR w) s.heap (mroOf (.ref C)) cd.mro := (looks_clsIn X hc).andThen .now
  have L3 : Looks (model PR w) s.heap (storeTaker? attr) none := by
    cases attr with
    | none => exact .now
    | some a =>
      obtain ⟨b, hb, e⟩ := Option.map_eq_some_iff.mp hr
      refine (looks_takesIn X hb).andThen ?_
      cases b
      · exact .now
      · cases e
  rw [osa_eq, refuse_eq]
  refine wpAny_bind (wpAny_bind (I.type.here (wpAny_bind (hm.here ?_))))
  rw [refuse_own _ ⟨p, hmro, hrefs⟩]
  refine wpAny_pure (wpAny_bind (I.type.here (wpAny_bind ((looks_findIn X ha).here (wpAny_bind (L3.here ?_))))))
  show wpAny _ _ (storeInOwnDict (.ref x) (.ref C) (.str name tk) name v attr.isSome) _ _ _
  refine wpAny_bind (wpAny_pure (wpAny_bind (wpAny_bind (wpAny_loadPart hx (wpAny_bind ((looks_clsIn X hc).here ?_))))))
  rw [hdict]
  have hg := Heap.get?_push_of_some (h := s.heap) { cls := .type "dict", data := .dict #[] } hx
  have hne : s.heap.objs.size ≠ x := Nat.ne_of_gt (Heap.lt_size hx)
  refine wpAny_bind (wpAny_alloc ?_)
  refine wpAny_bind (wpAny_update hg ?_)
  have hx2 := Heap.get?_update_self (fun o => { o with dict := some s.heap.objs.size }) hg rfl
  have D : ((s.heap.push { cls := .type "dict", data := .dict #[] }).update x (fun o => { o with dict := some s.heap.objs.size })).get? s.heap.objs.size = some (dictOf [] 0) := by
    rw [Heap.get?_update_other _ _ (Ne.symm hne)]
    exact Heap.get?_push_size _ rfl
  refine wpAny_pure (a := some s.heap.objs.size) (wpAny_bind (wpAny_pure (wpAny_bind ?_)))
  unfold nsSet
  refine wpAny_bind (wpAny_bind (wpAny_askSetting (wpAny_pure (wpAny_bind (wpAny_mkText (wpAny_bind (wpAny_loadPart D ?_)))))))
  (try dsimp only)
  rw [aRefKeyMayBeTheName_at, show (!(#[] : Array DictEntry).any (fun x => x.key.isStr name) && (#[] : Array DictEntry).any (fun x => x.refKey)) = false from by simp]
  refine wpAny_updatePart D ?_
  have D' := Heap.get?_update_self (Obj.putName name (PyData.keyHash w.params name) (.str name s.toks) v) D rfl
  rw [putName_dict] at D'
  refine wpAny_bind (wpAny_lookBehind D' (pastItsLine_dict (by rw [List.size_toArray, sizeLine_eq]; exact Nat.le_of_ble_eq_true rfl)) ?_)
  refine wpAny_pure (h _ s.heap.objs.size _ (fun b o e hb => ?_) ?_ ?_ D')
  · have hb' : s.heap.objs.size ≠ b := Nat.ne_of_gt (Heap.lt_size e)
    rw [Heap.get?_update_other _ _ hb', Heap.get?_update_other _ _ (Ne.symm hb)]
    exact Heap.get?_push_of_some _ e
  · rw [Heap.get?_update_other _ _ hne]
    exact hx2
  · exact Heap.get?_none_of_le (Nat.le_refl _)
theorem set_exc {Q : Unit → Shared → Prop} (X : K.In s.heap) (hx : s.heap.get? x = some ⟨.ref C, none, .fields vs, #[]⟩) (hs : findIn K (.ref C) "__setattr__" = some (some (.builtin "object.__setattr__"))) (hp : excCls K C) (ht : takerIn K C name = some none)
    (h : ∀ h' d od, (∀ b o, s.heap.get? b = some o → b ≠ x → h'.get? b = some o) → h'.get? x = some ⟨.ref C, some d, .fields vs, #[]⟩ → s.heap.get? d = none → h'.get? d = some od → Q () { s with heap := h', toks := s.toks + 2 }) :
    wpAny (model PR w) A (setAttr (.ref x) name v) Q E s := by
  exact set_plain (od := none) X ⟨hx, rfl, rfl, trivial⟩ hs (osa_exc (s := { s with toks := s.toks + 1 }) X hx hp ht fun h' d od a b c e => h h' d od a b c e)
end

end SES
section MxS
section
variable {w : World} {A : Around} {E : Value → Shared → Prop} {h : Heap} {g : Array GenState} {d : Drawn} {t : Nat} {os : OsState}
variable {nm q : Str} {C N : Addr} {bs bm bmN : List Value} {hdct : Bool} {sn : List Str} {sub : List Value} {ab : Bool} {col : Option Bool} {dd : Option Addr} {k0 k1 k2 k3 k5 : Option Value} {Bn newId inN : String}
theorem check_newX {M : Model} (Fn : ExcBaseFacts Bn newId inN bmN) (hcont : (Value.ref C :: bm).contains (.type Bn) = true) {rest : List Value} {Q : Unit → Shared → Prop} (hC : h.get? C = some (excClassObj nm q C N bs bm hdct sn sub ab col dd k0 k1 k2 k3 k5 newId))
    (hq : Q () ⟨h, g, d, t, os⟩) : wpAny M A (checkBuiltinCall newId ⟨.ref C :: rest, []⟩) Q E ⟨h, g, d, t, os⟩ := by
  have hstar := Fn.noStar
  simp only [checkBuiltinCall, Fn.newKind, Fn.newSplit, Fn.newRow]
  repeat (first | refine wpAny_loadPart_at hC ?_ | (refine wpAny_isSubtype_exc hC ?_; rw [hcont]) | refine wpAny_staticBase_exc hC ?_ | refine wpAny_madeBy_exc hC ?_ | simp only [bne_self_eq_false, Bool.false_eq_true, if_false] | wp_step)
  exact hq
theorem exc_newX {R : Result → Shared → Prop} (Fn : ExcBaseFacts Bn newId inN bmN) (hcB : (Value.ref C :: bm).contains (.type Bn) = true) (hcA : (Value.ref C :: bm).contains (.type "AttributeError") = false) (hcN : (Value.ref C :: bm).contains (.type "NameError") = false) {rest : List Value}
    (hC : h.get? C = some (excClassObj nm q C N bs bm hdct sn sub ab col dd k0 k1 k2 k3 k5 newId))
    (hq : R (.ok (.ret (.ref (h.objs.size + 1)))) ⟨(h.push { cls := .type "tuple", data := .seq rest.toArray }).push { cls := .ref C, data := .fields #[.ref h.objs.size, .none, .none, .none, .bool false, .none] }, g, d, t, os⟩) (hrest : rest.length ≤ sizeLine) :
    codeAny (model PR w) A (.builtin newId ⟨.ref C :: rest, []⟩) R ⟨h, g, d, t, os⟩ := by
  have hends := Fn.ends
  refine codeAny_builtinAt Fn.entry ?_
  unfold Builtin.«BaseException.__new__»
  refine PySem.wpAt_bind ?_
  show PySem.wpAt _ _ _ (PySem.stack >>= _) _ _ _
  refine PySem.wpAt_bind (PySem.wpAt_stack fun p below => PySem.wpAt_of_wpAny ?_)
  wp_walk
  refine PySem.wpAt_of_wpAny ?_
  rw [Fn.owner]
  repeat (first | with_reducible refine wpAny_madeHere_exc Fn.canon hC ?_ | with_reducible refine wpAny_loadPart_at hC ?_ | (with_reducible refine wpAny_isSubtype_exc hC ?_; first | rw [hcB] | rw [hcA] | rw [hcN]) | wp_step)
  show R _ _
  rw [Heap.size_push]
  exact hq
theorem type_callX {init : Value} (Fn : ExcBaseFacts Bn newId inN bmN) (hcB : (Value.ref C :: bm).contains (.type Bn) = true) (hcA : (Value.ref C :: bm).contains (.type "AttributeError") = false) (hcN : (Value.ref C :: bm).contains (.type "NameError") = false) {rest : List Value} {Q : Fin → Shared → Prop}
    (hC : h.get? C = some (excClassObj nm q C N bs bm hdct sn sub ab col dd k0 k1 k2 k3 k5 newId)) (hi : Looks (model PR w) h (typeLookup (.ref C) "__init__") (some init)) (hb : ∀ self, Looks (model PR w) h (bindSpecial init self) (init, [self])) (hrest : rest.length ≤ sizeLine)
    (hq : ∀ h' e, Heap.MadeExcOf h h' e (.ref C) rest → wpAny (model PR w) A (call init (.ref e :: rest)) (fun r s' => r = .none ∧ Q (.done (.ret (.ref e))) s') E ⟨h', g, d, t, os⟩) :
    wpAny (model PR w) A (Builtin.«type.__call__» ⟨.ref C :: rest, []⟩) Q E ⟨h, g, d, t, os⟩ := by
  repeat (first | with_reducible refine wpAny_loadPart_at hC ?_ | with_reducible refine wpAny_madeBy_exc hC ?_ | wp_step)
  refine codeAny_call_builtin_code (Code.quiet_builtin _ Fn.quiet) (check_newX Fn hcB hC ?_)
  refine exc_newX Fn hcB hcA hcN hC ?_ hrest
  show wpAny _ _ _ _ _ _
  have k2 : ∀ b o, h.get? b = some o → ((h.push { cls := .type "tuple", data := .seq rest.toArray }).push { cls := .ref C, data := .fields #[.ref h.objs.size, .none, .none, .none, .bool false, .none] }).get? b = some o := fun b o e => Heap.get?_push_of_some _ (Heap.get?_push_of_some _ e)
  have hget : ((h.push { cls := .type "tuple", data := .seq rest.toArray }).push { cls := .ref C, data := .fields #[.ref h.objs.size, .none, .none, .none, .bool false, .none] }).get? (h.objs.size + 1) = some
      { cls := .ref C, data := .fields #[.ref h.objs.size, .none, .none, .none, .bool false, .none] } := by heap_get
  have hcC : (Value.ref C :: bm).contains (.ref C) = true := by simp
  unfold isInstance
  repeat (first | with_reducible refine wpAny_loadPart_at hget ?_ | (with_reducible refine wpAny_isSubtype_exc (k2 _ _ hC) ?_; rw [hcC]) | wp_step)
  show wpAny _ _ (typeLookup (.ref C) _) _ _ _
  refine (hi.keeps k2).here ?_
  refine wpAny_holding (wpAny_bind ((hb _).keeps k2 |>.here ?_))
  refine wpAny_bind (wpAny_mono (hq _ (h.objs.size + 1) ⟨k2, Heap.get?_none_of_le (Nat.le_succ _), h.objs.size, hget, Heap.get?_none_of_le (Nat.le_refl _), ?_⟩) (fun r s' hr => ?_) fun _ _ x => x)
  · exact Heap.get?_push_of_some _ (Heap.get?_push_at rfl rfl)
  · obtain ⟨rfl, hQ⟩ := hr
    wp_walk
    exact hQ
theorem make_exc {init : Value} (Fn : ExcBaseFacts Bn newId inN bmN) (hcB : (Value.ref C :: bm).contains (.type Bn) = true) (hcA : (Value.ref C :: bm).contains (.type "AttributeError") = false) (hcN : (Value.ref C :: bm).contains (.type "NameError") = false) {rest : List Value} {Q : Value → Shared → Prop}
    (hC : h.get? C = some (excClassObj nm q C N bs bm hdct sn sub ab col dd k0 k1 k2 k3 k5 newId)) (hi : Looks (model PR w) h (typeLookup (.ref C) "__init__") (some init)) (hb : ∀ self, Looks (model PR w) h (bindSpecial init self) (init, [self])) (hrest : rest.length ≤ sizeLine)
    (hq : ∀ h' e, Heap.MadeExcOf h h' e (.ref C) rest → wpAny (model PR w) (A.under (.builtin "type.__call__" ⟨.ref C :: rest, []⟩)) (call init (.ref e :: rest)) (fun r s' => r = .none ∧ Q (.ref e) s') E ⟨h', g, d, t, os⟩) :
    wpAny (model PR w) A (call (.ref C) rest) Q E ⟨h, g, d, t, os⟩ := by
  have f1 := tc_lookup
  have f2 := tc_bind (.ref C)
  have hT : (⟨h, g, d, t, os⟩ : Shared).TypeIs (.ref C) "type" := ⟨_, hC, rfl⟩
  refine wpAny_call (codeAny_of_tree ?_)
  show wpAny _ _ (callAny (.ref C) _) _ _ _
  repeat (any_goals (first | assumption | with_reducible refine wpAny_loadPart_at hC ?_ | wp_step))
  refine ⟨rfl, ?_⟩
  refine codeAny_call_builtin_at (Code.quiet_builtin _ (by decide +kernel)) entry_typeCall (wpAny_check_type_call_sub hC (type_callX Fn hcB hcA hcN hC hi hb hrest fun h' e hm => ?_))
  exact hq h' e hm
theorem exc_init {fl : List Value} {dct : Option Addr} {e t0 : Addr} {osl : Array (Option Value)} {rest : List Value} {Q : Value → Shared → Prop} (hcB : (Value.ref C :: bm).contains (.type "Exception") = true)
    (hC : h.get? C = some (excClassObj nm q C N bs bm hdct sn sub ab col dd k0 k1 k2 k3 k5 newId)) (he : h.get? e = some ⟨.ref C, dct, .fields (.ref t0 :: fl).toArray, osl⟩) (hrest : rest.length ≤ sizeLine)
    (hq : ∀ h' t1, (∀ b o, h.get? b = some o → b ≠ e → h'.get? b = some o) → h.get? t1 = none → h'.get? e = some ⟨.ref C, dct, .fields (.ref t1 :: fl).toArray, osl⟩ → Q .none ⟨h', g, d, t, os⟩) :
    wpAny (model PR w) A (call (.builtin "Exception.__init__") (.ref e :: rest)) Q E ⟨h, g, d, t, os⟩ := by
  have F := PySem.F.excBase_Exception
  refine wpAny_call (codeAny_call_builtin F.init.plain F.initEntry ?_)
  have hshort := F.noStar
  simp only [checkBuiltinCall, F.initKind, F.initSplit, F.initRow]
  repeat (first | with_reducible refine wpAny_loadPart_at he ?_ | with_reducible refine wpAny_loadPart_at hC ?_ | (with_reducible refine wpAny_isSubtype_exc hC ?_; rw [hcB]) | wp_step)
  refine wpAny_onRaise ?_
  rw [show ∀ (a b : String) (n : Nat), Bind.check ⟨.positional, "*", "Exception", .self, [⟨"args", .varPos, false⟩]⟩ a b n (List.map (fun x => x.fst) ({ pos := Value.ref e :: rest } : Args).kw) = pure () from
    fun a b n => check_star_args _ _ _ _ _ _]
  refine wpAny_pure ?_
  wp_walk
  have he2 := Heap.get?_push_of_some (h := h) { cls := .type "tuple", data := .seq rest.toArray } he
  refine hq _ h.objs.size (fun b o hb ne => ?_) (Heap.get?_none_of_le (Nat.le_refl _)) ?_
  · rw [Heap.get?_update_other _ _ (Ne.symm ne)]
    exact Heap.get?_push_of_some _ hb
  · rw [Heap.get?_update_self _ he2 rfl]
    simp [Obj.mapFields]
end

end MxS
section RsS
section
variable {w : World}
noncomputable abbrev excO (C : Addr) (d : Option Addr) (t : Addr) : Obj := ⟨.ref C, d, .fields (.ref t :: [.none, .none, .none, .bool false, .none]).toArray, #[]⟩
theorem cls_get {K : Frag} {h : Heap} {C D : Addr} {dd : Option Addr} {cd : ClassData} {k0 k1 k2 k3 k5 : Option Value} (X : K.In h) (ho : K.lookup C = some ⟨.type "type", dd, .cls cd, #[k0, k1, k2, k3, some (.builtin "Exception.__new__"), k5]⟩) (hm : cd.mro = [.ref C, .ref D, .type "Exception", .type "BaseException", .type "object"]) (hdel : cd.hasDel = false) (hdict : cd.hasDict = true) :
    excCls K C ∧ ∃ nm q N bs sn sub ab col dd k0 k1 k2 k3 k5, h.get? C = some (excClassObj nm q C N bs (.ref D :: excTail) true sn sub ab col dd k0 k1 k2 k3 k5 "Exception.__new__") := by
  refine ⟨⟨cd, [.ref C, .ref D], by unfold clsIn; rw [ho], hdict, hm, fun c hc => ?_⟩, ?_⟩
  · simp only [List.mem_cons, List.not_mem_nil, or_false] at hc
    rcases hc with rfl | rfl
    · exact ⟨_, rfl⟩
    · exact ⟨_, rfl⟩
  · obtain ⟨nm, bs, mro, ns, qn, hdd, sn, sub, ab, col, del⟩ := cd
    dsimp only at hm hdel hdict
    subst hm hdel hdict
    exact ⟨_, _, _, _, _, _, _, _, _, _, _, _, _, _, X _ _ ho⟩
theorem halt_get {h : Heap} (X : (hd.heap_39 w.params).In h) : excCls (hd.heap_39 w.params) 170 ∧ ∃ nm q N bs sn sub ab col dd k0 k1 k2 k3 k5, h.get? 170 = some (excClassObj nm q 170 N bs (.ref 157 :: excTail) true sn sub ab col dd k0 k1 k2 k3 k5 "Exception.__new__") := by
  refine' cls_get X ?ho ?hm ?hdel ?hdict
  case ho => k_is
  case hm => rfl
  case hdel => rfl
  case hdict => rfl
end
theorem meta_exc : typeOf (.type "Exception") = pure (.type "type") := by kernel_rfl
theorem fault_init {w : World} (e t0 : Addr) (t : Tok) : ∀ (s : Shared) (Q E : Value → Shared → Prop) (dp un : Nat) (gd : Option (List Code)) (outer : List Env), Room 1 dp un → Wd w (hideAll s.heap [e]) → s.heap.get? e = some (excO 170 none t0) →
    (∀ h' tk d t1, Ext (hideAll s.heap [e]) h' → h'.get? e = some (excO 170 (some d) t1) → Q .none { s with heap := h', toks := tk }) → wpAny (model PR w) (mkA dp un gd outer) (call (.ref 154) [.ref e, .str "gas" t]) Q E s := by
  intro s Q E dp un gd outer hR hX he hQ
  have hX0 : Wd w s.heap := hX.keeps (hide_ext' _ _)
  obtain ⟨X2, mean2, mg2, mb2, T2⟩ := hX
  ktr_call [(Str.ofString "self", .ref e), (Str.ofString "word", .str "gas" t)] hR
  rename Fr _ _ _ _ => F
  rename News _ _ _ _ => N
  rename Top _ _ _ _ _ _ => T
  rename Frag.In _ s.heap => X
  have F2 := hide_fr3 F [e]
  have N2 : News (hideAll s.heap [e]) L' h₁ [(e, excO 170 none t0)] := by
    intro p hp
    rw [List.mem_singleton.mp hp]
    exact ⟨F.keep _ _ he, Nat.ne_of_lt (Nat.lt_of_lt_of_le (Heap.lt_size he) F.above), hideAll_none _ (.head _)⟩
  clear F N X T
  k_extra "my words"
  refine' method_type (v := .builtin "Exception.__init__") F2 X2 meta_exc (by decide +kernel) ?e ?h ?_
  case e => k_is
  case h => k_handed
  (try dsimp only)
  k_extra "my words"
  obtain ⟨hcls, nm, q, NS, bs, sn, sub, ab, col, dd, k0, k1, k2, k3, k5, hC⟩ := halt_get (X2.keeps F2.keep)
  refine exc_init (fl := [.none, .none, .none, .bool false, .none]) (by decide) hC (N2 _ (.head _)).1 (by rw [sizeLine_eq]; exact Nat.le_of_ble_eq_true rfl) fun h2 t1 kp2 _ he2 => ?_
  have hLe : @Ne Nat L' e := Ne.symm (N2 _ (.head _)).2.1
  have F3 : Fr (hideAll s.heap [e]) L' h2 (fun y => List.lookup y [(Str.ofString "self", Value.ref e), (Str.ofString "word", Value.str (Str.ofString "gas") t)].reverse) :=
    ⟨F2.ns.at' (fun {o} q => kp2 _ o q hLe), fun b o q => kp2 b o (F2.keep b o q) (fun z => by rw [z, hideAll_none _ (.head _)] at q; cases q), F2.above⟩
  clear F2 N2
  k_extra "my words"
  refine' set_exc (X2.keeps F3.keep) he2 ?hs hcls ?ht ?_
  case hs => k_is
  case ht => k_is
  intro h3 d od kp3 he3 _ _
  (try dsimp only)
  k_extra "my words"
  refine' hQ _ _ _ _ ?_ he3
  intro b o q
  exact kp3 b o (F3.keep b o q) (fun z => by rw [z, hideAll_none _ (.head _)] at q; cases q)

end RsS
section PrS
section
variable {M : Model} {A : Around} {E : Value → Shared → Prop} {env : Env}
variable {nm q : Str} {C N : Addr} {bs bm : List Value} {hdct : Bool} {sn : List Str} {sub : List Value} {ab : Bool} {col : Option Bool} {dd : Option Addr} {k0 k1 k2 k3 k5 : Option Value} {newId : String}
theorem raiseStmt_Y {s : Shared} {x : Sem Value} {Q : Flow → Shared → Prop} (hh : A.handled = none)
    (h : wpAny M A x (fun v s₁ => ∃ e d t, v = .ref e ∧ (∃ nm q N bs sn sub ab col dd k0 k1 k2 k3 k5, s₁.heap.get? 170 = some (excClassObj nm q 170 N bs (.ref 157 :: excTail) true sn sub ab col dd k0 k1 k2 k3 k5 "Exception.__new__")) ∧ s₁.heap.get? e = some (excO 170 d t) ∧ E (.ref e) s₁) E s) :
    wpAny M A (raiseStmt env (some x) none) Q E s := by
  have hbase : (Value.ref 170 :: .ref 157 :: excTail).contains (.type "BaseException") = true := by decide
  unfold raiseStmt
  refine wpAny_bind (wpAny_mono h (fun v s₁ h₁ => ?_) fun _ _ x => x)
  obtain ⟨e, d, t, rfl, ⟨nm, q, N, bs, sn, sub, ab, col, dd, k0, k1, k2, k3, k5, hC⟩, he, hE⟩ := h₁
  obtain ⟨hp, g, d, tk, os⟩ := s₁
  repeat (first | with_reducible refine wpAny_loadPart_at he ?_ | with_reducible refine wpAny_loadPart_at hC ?_ | (with_reducible refine wpAny_isSubtype_exc hC ?_; rw [hbase]) | wp_step)
  exact wpAny_raiseNew_none hh hE
noncomputable def RaisX (E : Value → Shared → Prop) (v : Value) (s : Shared) : Prop := ∃ e d t, v = .ref e ∧ (∃ nm q N bs sn sub ab col dd k0 k1 k2 k3 k5, s.heap.get? 170 = some (excClassObj nm q 170 N bs (.ref 157 :: excTail) true sn sub ab col dd k0 k1 k2 k3 k5 "Exception.__new__")) ∧ s.heap.get? e = some (excO 170 d t) ∧ E (.ref e) s
theorem Raise_X {s : Shared} {x : Expr} {pos : Pos} {Q : Flow → Shared → Prop} (hh : A.handled = none) (h : wpAny M A (eval x env) (RaisX E) E s) : wpAny M A (exec (.Raise (some x) none pos) env) Q E s := by
  show wpAny M A (do standAt pos; raiseStmt env (some (do let v ← eval x env; standAt pos; pure v)) none) Q E s
  refine wpAny_bind (wpAny_standAt ?_)
  refine raiseStmt_Y hh (wpAny_bind (wpAny_mono h (fun v s₁ h₁ => wpAny_bind (wpAny_standAt (wpAny_pure h₁))) fun _ _ x => x))
end
theorem reg47 : True := by
  k_with "exec Raise some none" => ((k_here; k_dflt (refine' Raise_X ?kh ?_; (case kh => rfl); k_whole)))
  trivial
noncomputable def RSpec (w : World) (k : Nat) (f : Addr) (args : List Value) (FR D ST : Addr) (g : Int) (rs : List Int) : Prop :=
  ∀ (s : Shared) (Q E : Value → Shared → Prop) (dp un : Nat) (gd : Option (List Code)) (outer : List Env) (base : Heap), Room k dp un → Wd w (hideAll s.heap [FR, D, ST]) → FrAt w s.heap FR D ST g rs → base.StaysIn (hideAll s.heap [FR, D, ST]) → (hideAll s.heap [FR, D, ST]).FunFrames base outer →
    (∀ e a0 h' tk, Heap.FlyingW base outer e (.ref 170) a0 h' → (hideAll s.heap [FR, D, ST]).UpToSlots h' → E (.ref e) { s with heap := h', toks := tk }) → wpAny (model PR w) (mkA dp un gd outer) (call (.ref f) args) Q E s
theorem pay_raise {w : World} (FR D ST : Addr) (g x : Int) (t : Tok) (rs : List Int) (hx : g < x) : RSpec w 3 326 [.ref FR, .int x t] FR D ST g rs := by
  rintro s Q E dp un gd outer base hR hX ⟨V, K, tg, n1, vs, n2, hF, hD, hS, hI⟩ hB hfr hQ
  have hX0 : Wd w s.heap := hX.keeps (hide_ext' _ _)
  obtain ⟨X2, mean2, mg2, mb2, T2⟩ := hX
  obtain ⟨q1, q2, q3⟩ := fr_ne hF hD hS
  ktr_call [(Str.ofString "self", .ref FR), (Str.ofString "amount", .int x t)] hR
  rename Fr _ _ _ _ => F
  rename News _ _ _ _ => N
  rename Top _ _ _ _ _ _ => T
  rename Frag.In _ s.heap => X
  have F2 := hide_fr3 F [FR, D, ST]
  have N2 := hide_news3 F hF hD hS
  clear F N X T
  dsimp only [frD, en] at N2
  k_extra "my words"
  have X3 := X2.keeps F2.keep
  obtain ⟨hcls, nm, q, NS, bs, sn, sub, ab, col, dd, k0, k1, k2, k3, k5, hC⟩ := halt_get X3
  refine make_exc (init := .ref 154) PySem.F.excBase_Exception (by decide) (by decide) (by decide) hC (looks_findIn X3 (by k_is)) (fun self => bind_fn X3 self (beq_iff_eq.mp (by k_is : isFn (hd.heap_39 w.params) (.ref 154) = true))) (by rw [sizeLine_eq]; exact Nat.le_of_ble_eq_true rfl) fun h2 e hm => ?_
  obtain ⟨t0, he2, _, _⟩ := hm.there
  have notE : ∀ b o, h₁.get? b = some o → b ∉ [e] := fun b o q z => by rw [List.mem_singleton.mp z, hm.new] at q; cases q
  have kk : Ext h₁ (hideAll h2 [e]) := fun b o q => hideAll_get _ (hm.keeps b o q) (notE b o q)
  have k0' : Ext (hideAll s.heap [FR, D, ST]) (hideAll h2 [e]) := fun b o q => kk b o (F2.keep b o q)
  refine fault_init e t0 tk _ _ _ (dp + 2) (un + 4) gd _ ⟨by have := R'.d; omega, by have := R'.u; omega⟩ ⟨X2.keeps k0', _, _, _, T2.keeps k0'⟩ he2 fun h3 tk3 d t1 hE3 he3 => ?_
  have k13 : Ext h₁ h3 := fun b o q => hE3 b o (kk b o q)
  have kg3 : Ext (hideAll s.heap [FR, D, ST]) h3 := fun b o q => k13 b o (F2.keep b o q)
  have e0 : base.get? e = none := fresh_of_stays hB (kts_none F2.keep hm.new)
  refine ⟨rfl, e, some d, t1, rfl, (halt_get (X2.keeps kg3)).2, he3, ?_⟩
  obtain ⟨oL, esL, epL, hoL, hdL, _⟩ := F2.ns
  refine wpAny_leaving_firstW (base := base) (a0 := .ref t1) (outer := outer) (L := L') rfl ⟨(fun z => nomatch z), ⟨L', oL, rfl, fresh_of_stays hB (kts_self F2), k13 _ _ hoL, fun vs z => by rw [hdL] at z; cases z⟩, hfr.of_keeps fun b o q _ => ⟨o, kg3 b o q, rfl⟩⟩ rfl he3 (fun b o q => kg3 b o (hB b o q)) e0 rfl rfl rfl fun h4 hL => ?_
  obtain ⟨l1, ⟨_, _, l2⟩, l3, l4⟩ := hL
  exact hQ e (.ref t1) h4 _ ⟨l1, e0, l2, l3⟩ ((Heap.UpToSlots.of_keeps kg3).trans l4)

end PrS
section ErS
section
variable {w : World} {s : Shared} {Q E : Value → Shared → Prop} {k n dp un : Nat} {gd : Option (List Code)} {outer : List Env} {f a : Addr} {args : List Value} {FR D ST : Addr} {g₀ : Int} {rs : List Int}
  {g base : Heap} {L : Addr} {m : Str → Option Value} {news : List (Addr × Obj)} {mean : ExcName → Option Value} {mg mb : Str → Option Value} {V : Nat → Value} {K : Nat → Tok} {tg : Tok} {n1 n2 : Nat} {vs : List Value} {name : Str} {scope : Scope} {cd : Value}
theorem RSpec.use (S : RSpec w k f args FR D ST g₀ rs) (R : Room n dp un) (F : Fr g L s.heap m) (N : News g L s.heap news) (X : (hd.heap_39 w.params).In g) (T : Top VW LS mean mg mb g)
    (hF : (FR, instObj 357 D) ∈ news) (hD : (D, frD w V K ST g₀ tg n1) ∈ news) (hS : (ST, listOf vs.toArray n2) ∈ news) (hi : IntsAre vs rs.reverse) (hk : k ≤ n) (hB : base.StaysIn g) (hfr : g.FunFrames base outer) (hkind : scope.kind ≠ .module)
    (h : ∀ e a0 h' tk, Heap.FlyingW base (envOf name scope L a cd :: outer) e (.ref 170) a0 h' → g.UpToSlots h' → (∃ o, s.heap.get? L = some o ∧ ∃ sl, h'.get? L = some { o with slots := sl }) → E (.ref e) { s with heap := h', toks := tk }) :
    wpAny (model PR w) (mkA dp un gd (envOf name scope L a cd :: outer)) (call (.ref f) args) Q E s := by
  have N1 := N _ hF
  have N2 := N _ hD
  have N3 := N _ hS
  have k0 : Ext g (hideAll s.heap [FR, D, ST]) := fun b o e => by
    refine hideAll_get _ (F.keep b o e) fun hm => ?_
    simp only [List.mem_cons, List.not_mem_nil, or_false] at hm
    rcases hm with rfl | rfl | rfl
    · rw [N1.2.2] at e; cases e
    · rw [N2.2.2] at e; cases e
    · rw [N3.2.2] at e; cases e
  obtain ⟨oL, esL, epL, hoL, hdL, _⟩ := F.ns
  have notF : ∀ vs, oL.data ≠ .fields vs := fun vs z => by rw [hdL] at z; cases z
  have hL : (hideAll s.heap [FR, D, ST]).get? L = some oL := hideAll_get _ hoL fun hm => by
    simp only [List.mem_cons, List.not_mem_nil, or_false] at hm
    rcases hm with q | q | q
    · exact N1.2.1 q.symm
    · exact N2.2.1 q.symm
    · exact N3.2.1 q.symm
  refine S s Q E dp un gd _ base (R.le hk) ⟨X.keeps k0, _, _, _, T.keeps k0⟩ ⟨V, K, tg, n1, vs, n2, N1.1, N2.1, N3.1, hi⟩ (fun b o e => k0 b o (hB b o e)) ⟨hkind, ⟨L, oL, rfl, fresh_of_stays hB (kts_self F), hL, notF⟩, hfr.of_keeps fun b o q _ => ⟨o, k0 b o q, rfl⟩⟩ fun e a0 h' tk hfl hup => ?_
  exact h e a0 h' tk hfl ((Heap.UpToSlots.of_keeps k0).trans hup) ⟨oL, hoL, hup _ _ hL notF⟩
end
theorem op_exp_raise {w : World} (FR D ST : Addr) (g a b : Int) (ha0 : 0 ≤ a) (ha1 : a < WORD) (hb0 : 0 ≤ b) (hb1 : b < WORD) (hg : g < (50 * (((Builtin.Int.intBits b : Int) + 7).fdiv 8))) : RSpec w 5 438 [.none, .ref FR] FR D ST g [a, b, 5] := by
  rintro s Q E dp un gd outer base hR hX ⟨V, K, tg, n1, vs, n2, hF, hD, hS, hI⟩ hB hfr hQ
  have hX0 : Wd w s.heap := hX.keeps (hide_ext' _ _)
  obtain ⟨X2, mean2, mg2, mb2, T2⟩ := hX
  obtain ⟨q1, q2, q3⟩ := fr_ne hF hD hS
  have bbA := bits_of_word ha0 ha1
  have bbB := bits_of_word hb0 hb1
  have bA' : Builtin.Int.intBits a ≤ 1024 := by omega
  have bB' : Builtin.Int.intBits b ≤ 1024 := by omega
  have lgB := log_of_bits bbB (by omega)
  have lgS := log_of_sgn hb0 hb1
  ktr_call [(Str.ofString "machine", .none), (Str.ofString "frame", .ref FR)] hR
  rename Fr _ _ _ _ => F
  rename News _ _ _ _ => N
  rename Top _ _ _ _ _ _ => T
  rename Frag.In _ s.heap => X
  have F2 := hide_fr3 F [FR, D, ST]
  have N2 := hide_news3 F hF hD hS
  clear F N X T
  k_extra "my words"
  refine' RSpec.use (base := base) (pay_raise _ _ _ _ _ _ _ hg) (by assumption) (by assumption) (by assumption) (by assumption) (by assumption) ?m1 ?m2 ?m3 (by with_reducible assumption) (by decide) hB hfr (fun z => nomatch z) ?_
  case m1 => k_mem
  case m2 => k_mem
  case m3 => k_mem
  intro e a0 h' tk hfl hup _
  refine wpAny_leaves_onW rfl rfl hfl fun h2 hfl2 hup2 => ?_
  exact hQ e a0 h2 _ hfl2 (hup.trans hup2)

end ErS
section CaS
section
variable {w : World} {A : Around} {E : Value → Shared → Prop} {s' : Shared} {base h : Heap} {outer : List Env} {L a e : Addr} {m : Str → Option Value} {name : Str} {scope : Scope} {cd a0 : Value}
  {b₀ : Stmt} {suite : List Stmt} {pos np : Pos} {rest : List ExceptHandler} {Q : Flow → Shared → Prop} {mean : ExcName → Option Value} {mg mb : Str → Option Value}
theorem caught_X (hfr : A.frames = some (envOf name scope L a cd :: outer)) (hfl : Heap.FlyingW base (envOf name scope L a cd :: outer) e (.ref 170) a0 s'.heap) (F : Fr base L h m) (hsm : h.UpToSlots s'.heap) (X : (hd.heap_39 w.params).In base) (T : Top VW LS mean mg mb base)
    (ex : nsIn (hd.heap_39 w.params) mainGlobals "Halt" = some (some (.ref 170)))
    (k : ∀ h', Fr base L h' m → s'.heap.UpToSlots h' → wpAny (model PR w) (A.mark (some (.ref e))) (execs (b₀ :: suite) (envOf name scope L a cd)) Q (fun _ _ => False) { s' with heap := h' })
    (hk : scope.kind = .function := by rfl) (hx : (envOf name scope L a cd).kindOf "Halt" = some .globalImplicit := by rfl) :
    wpAny (model PR w) A (noteFrame (.ref e) (envOf name scope L a cd))
      (fun _ s₂ => wpAny (model PR w) A (setFlight (.ref e) none) (fun _ s₃ =>
        wpAny (model PR w) A (handleBy (.ref e) (envOf name scope L a cd) (.ExceptHandler (some (.Name "Halt" np)) none (b₀ :: suite) pos :: rest)) Q E s₃) E s₂) E s' := by
  refine wpAny_looks_onW hfr rfl hfl fun h₄ hheld₄ hsm₄ => ?_
  refine wpAny_landsW hheld₄ fun h₅ hheld hsm₅' => ?_
  have hsm₅ := hsm₄.trans hsm₅'
  have F₅ := F.of_stays hheld.1 (hsm.trans hsm₅)
  obtain ⟨ob, hob, hobc⟩ := hheld.there
  refine wpAny_handleBy_cons (codeAny_handlers_test (name_K F₅ X (topRead_of T) ex ?_ hk hx (by decide))) (by intro q; cases q)
  obtain ⟨_, nm, q, NS, bs, sn, sub, ab, col, dd, k0, k1, k2, k3, k5, hC⟩ := halt_get (X.keeps F₅.keep)
  refine wpAny_excMatches_sub_self hC hob hobc (by decide) (codeAny_handlers_suite ?_)
  refine lands_againW hheld fun h₆ hfl₆ hsm₆ => ?_
  exact wpAny_noRaise (k h₆ (F.of_stays hfl₆.1 ((hsm.trans hsm₅).trans hsm₆)) (hsm₅.trans hsm₆))
end

end CaS
section LaS
section
variable {w : World} {s : Shared} {Q E : Value → Shared → Prop} {k n dp un : Nat} {outer : List Env} {f : Addr} {args : List Value} {Pre : Heap → Prop}
  {g : Heap} {L : Addr} {m : Str → Option Value} {news : List (Addr × Obj)} {mean : ExcName → Option Value} {mg mb : Str → Option Value} {gas : Int} {rs : List Int}
theorem SpecC.useFrW (S : SpecC w k f args Pre (PFrW w gas rs)) (R : Room n dp un) (F : Fr g L s.heap m) (N : News g L s.heap news) (X : (hd.heap_39 w.params).In g) (T : Top VW LS mean mg mb g) (hp : Pre s.heap) (hk : k ≤ n)
    (h : ∀ x dx st V K tg nn vs n2 h' tk, Fr g L h' m → News g L h' ((x, instObj 357 dx) :: (dx, frD w V K st gas tg nn) :: (st, listOf (List.toArray vs) n2) :: news) → IntsAre vs rs.reverse → Q (.ref x) { s with heap := h', toks := tk }) :
    MineH.wpC (model PR w) (mkA dp un (some []) outer) (call (.ref f) args) Q E s := by
  refine S s Q E dp un outer (R.le hk) (Wd.at X T F) hp fun v h' tk hE P9 => ?_
  obtain ⟨x, dx, st, e, hx, hd, hs, V, K, tg, nn, vs, n2, ox, od, os, hi⟩ := P9
  subst e
  refine h x dx st V K tg nn vs n2 h' tk (fr_ext F hE) ?_ hi
  intro p hp
  rcases List.mem_cons.mp hp with rfl | hp
  · exact news_new F N hE hx ox _ (.head _)
  rcases List.mem_cons.mp hp with rfl | hp
  · exact news_new F N hE hd od _ (.head _)
  rcases List.mem_cons.mp hp with rfl | hp
  · exact news_new F N hE hs os _ (.head _)
  · exact news_new F N hE hx ox p (.tail _ hp)
end
noncomputable abbrev fra (outer : List Env) : List Addr := outer.filterMap (·.frame)
noncomputable def LSpec (w : World) (k : Nat) (f : Addr) (args : List Value) (Pre : Heap → Prop) (r : Bool) : Prop :=
  ∀ (s : Shared) (Q E : Value → Shared → Prop) (dp un : Nat) (outer : List Env), Room k dp un → Wd w (hideAll s.heap (fra outer)) → s.heap.FunFrames (hideAll s.heap (fra outer)) outer → Pre (hideAll s.heap (fra outer)) →
    (∀ h' tk, Ext (hideAll s.heap (fra outer)) h' → s.heap.UpToSlots h' → Q (.bool r) { s with heap := h', toks := tk }) → MineH.wpC (model PR w) (mkA dp un (some []) outer) (call (.ref f) args) Q E s
theorem c_catch {M : Model} {A : Around} {E : Value → Shared → Prop} {s : Shared} {e : Value} {env : Env} {hs : List ExceptHandler} {Q : Flow → Shared → Prop}
    (h : wpAny M A (noteFrame e env) (fun _ s₂ => wpAny M A (setFlight e none) (fun _ s₃ => wpAny M A (handleBy e env hs) Q E s₃) E s₂) E s) : MineH.wpC M A (noteFrame e env) (fun _ s₂ => MineH.wpC M A (setFlight e none) (fun _ s₃ => MineH.wpC M A (handleBy e env hs) Q E s₃) E s₂) E s :=
  c_any (wpAny_mono h (fun _ _ z => c_any (wpAny_mono z (fun _ _ y => c_any y) fun _ _ y => y)) fun _ _ z => z)
theorem lacks_no {w : World} (l : Addr) (g a b : Int) (t : Tok) (ha0 : 0 ≤ a) (ha1 : a < WORD) (hb0 : 0 ≤ b) (hb1 : b < WORD) (hg : (50 * (((Builtin.Int.intBits b : Int) + 7).fdiv 8)) ≤ g) : LSpec w 12 705 [.ref 438, .ref l, .int g t] (fun h => IsL h l [a, b]) false := by
  intro s Q E dp un outer hR hX hfr hP hQ
  have hX0 : Wd w s.heap := hX.keeps (hide_ext' _ _)
  have hP0 : IsL s.heap l [a, b] := hP.keeps (hide_ext' _ _)
  obtain ⟨X2, mean2, mg2, mb2, T2⟩ := hX
  refine' cEnter (n := 11) (binds := [(Str.ofString "step", .ref 438), (Str.ofString "words_here", .ref l), (Str.ofString "gas", .int g t)]) hR hX0 ?ho ?hB ?hS ?hcd ?hb ?hl ?_ ?h1 ?h2 ?h3 ?h4
  case ho => k_is
  case hB => exact (rfl : List.cons _ _ = List.cons _ _)
  case hS => exact (rfl : Scope.mk _ _ _ _ _ = Scope.mk _ _ _ _ _)
  case hcd => k_is
  case hb => exact BindsTo.of_eq rfl
  case hl => exact locs rfl
  case h1 => rfl
  case h2 => rfl
  case h3 => rfl
  case h4 => decide
  intro L' h₁ mean mg mb F N X T R' env₉ A₉
  (try (conv in (occs := *) (stB _) => all_goals whnf)); (try (conv in (occs := *) (stS _) => all_goals whnf))
  (try dsimp only)
  refine c_execs_cons (c_try (c_execs_cons (c_expr (c_call_name ?_) rfl rfl)))
  k_fold
  k_extra "my words"
  refine c_callPlain (P := fun h => (hd.heap_39 w.params).In h) (keeps_K (by k_is)) (c_splicedE (c_any ?_) rfl) rfl rfl
  k_extra "my words"
  refine c_splicedE (c_call_name ?_) rfl
  k_extra "my words"
  refine c_callPlain (P := fun h => (hd.heap_39 w.params).In h) (keeps_K (by k_is)) (c_any ?_) rfl rfl
  k_extra "my words"
  refine' SpecC.useFrW (law_frame_spec l [a, b] g t) ?kR ?kF ?kN ?kX ?kT ?kp ?kk ?_
  case kp => exact ⟨hP0.keeps (Fr.keep (by assumption)), Nat.le_of_ble_eq_true rfl⟩
  case kR => assumption
  case kF => assumption
  case kN => assumption
  case kX => assumption
  case kT => assumption
  case kk => decide
  intro x dx st V K tg nn vs n2 h' tk F' N' hI
  refine c_any ?_
  k_extra "my words"
  refine c_any ?_
  refine' FSpec.use (op_exp_spec x dx st g a b ha0 ha1 hb0 hb1 hg) ?kR ?kF ?kN ?kX ?kT ?m1 ?m2 ?m3 hI ?kk ?_
  case kR => assumption
  case kF => assumption
  case kN => assumption
  case kX => assumption
  case kT => assumption
  case m1 => k_mem
  case m2 => k_mem
  case m3 => k_mem
  case kk => decide
  intro v2 h2 tk2 V2 K2 tg2 n3 n4 vs2 F2 N2 hI2 hP2
  (try dsimp only)
  refine c_any ?_
  k_extra "my words"
  (try dsimp only)
  refine c_execs_nil ?_
  (try dsimp only)
  refine c_any ?_
  k_extra "my words"
  (try dsimp only)
  have kE : Ext s.heap h2 := Fr.keep (by assumption)
  exact hQ h2 _ (fun b o q => kE b o (of_hideAll _ q)) (Heap.UpToSlots.of_keeps kE)
theorem lacks_yes {w : World} (l : Addr) (g a b : Int) (t : Tok) (ha0 : 0 ≤ a) (ha1 : a < WORD) (hb0 : 0 ≤ b) (hb1 : b < WORD) (hg : g < (50 * (((Builtin.Int.intBits b : Int) + 7).fdiv 8))) : LSpec w 12 705 [.ref 438, .ref l, .int g t] (fun h => IsL h l [a, b]) true := by
  intro s Q E dp un outer hR hX hfr hP hQ
  have hX0 : Wd w s.heap := hX.keeps (hide_ext' _ _)
  have hP0 : IsL s.heap l [a, b] := hP.keeps (hide_ext' _ _)
  obtain ⟨X2, mean2, mg2, mb2, T2⟩ := hX
  refine' cEnter (n := 11) (binds := [(Str.ofString "step", .ref 438), (Str.ofString "words_here", .ref l), (Str.ofString "gas", .int g t)]) hR hX0 ?ho ?hB ?hS ?hcd ?hb ?hl ?_ ?h1 ?h2 ?h3 ?h4
  case ho => k_is
  case hB => exact (rfl : List.cons _ _ = List.cons _ _)
  case hS => exact (rfl : Scope.mk _ _ _ _ _ = Scope.mk _ _ _ _ _)
  case hcd => k_is
  case hb => exact BindsTo.of_eq rfl
  case hl => exact locs rfl
  case h1 => rfl
  case h2 => rfl
  case h3 => rfl
  case h4 => decide
  intro L' h₁ mean mg mb F N X T R' env₉ A₉
  (try (conv in (occs := *) (stB _) => all_goals whnf)); (try (conv in (occs := *) (stS _) => all_goals whnf))
  (try dsimp only)
  refine c_execs_cons (c_try (c_execs_cons (c_expr (c_call_name ?_) rfl rfl)))
  k_fold
  k_extra "my words"
  refine c_callPlain (P := fun h => (hd.heap_39 w.params).In h) (keeps_K (by k_is)) (c_splicedE (c_any ?_) rfl) rfl rfl
  k_extra "my words"
  refine c_splicedE (c_call_name ?_) rfl
  k_extra "my words"
  refine c_callPlain (P := fun h => (hd.heap_39 w.params).In h) (keeps_K (by k_is)) (c_any ?_) rfl rfl
  k_extra "my words"
  refine' SpecC.useFrW (law_frame_spec l [a, b] g t) ?kR ?kF ?kN ?kX ?kT ?kp ?kk ?_
  case kp => exact ⟨hP0.keeps (Fr.keep (by assumption)), Nat.le_of_ble_eq_true rfl⟩
  case kR => assumption
  case kF => assumption
  case kN => assumption
  case kX => assumption
  case kT => assumption
  case kk => decide
  intro x dx st V K tg nn vs n2 h' tk F' N' hI
  refine c_any ?_
  k_extra "my words"
  refine c_any ?_
  refine' RSpec.use (base := hideAll s.heap (fra outer)) (op_exp_raise x dx st g a b ha0 ha1 hb0 hb1 hg) ?kR ?kF ?kN ?kX ?kT ?m1 ?m2 ?m3 hI ?kk (hide_ext' _ _) hfr (fun z => nomatch z) ?_
  case kR => assumption
  case kF => assumption
  case kN => assumption
  case kX => assumption
  case kT => assumption
  case m1 => k_mem
  case m2 => k_mem
  case m3 => k_mem
  case kk => decide
  rintro e a0 h2 tk2 hfl hup ⟨oL, hoL, sl, hsl⟩
  refine c_catch ?_
  have F2 := hide_fr3 F' (fra outer)
  obtain ⟨o2, es2, ep2, ho2, hd2, hr2⟩ := F'.ns
  obtain rfl : oL = o2 := by rw [hoL] at ho2; exact Option.some.inj ho2
  refine caught_X (h := h2) (base := hideAll s.heap (fra outer)) rfl hfl ⟨⟨_, es2, ep2, hsl, hd2, hr2⟩, hfl.1, F2.above⟩ (Heap.UpToSlots.refl _) X2 T2 (by k_is) fun h3 F3 hup3 => ?_
  k_extra "my words"
  (try dsimp only)
  exact hQ h3 _ F3.keep (hup.trans hup3)

end LaS
section StS
section
variable {w : World} {s : Shared} {Q E : Value → Shared → Prop} {k n dp un : Nat} {gd : Option (List Code)} {outer : List Env} {f : Addr} {args : List Value} {Pre : Heap → Prop}
  {g : Heap} {L : Addr} {m : Str → Option Value} {news : List (Addr × Obj)} {mean : ExcName → Option Value} {mg mb : Str → Option Value}
theorem Spec.useAr (S : Spec w k f args Pre (PArith w)) (R : Room n dp un) (F : Fr g L s.heap m) (N : News g L s.heap news) (X : (hd.heap_39 w.params).In g) (T : Top VW LS mean mg mb g) (hp : Pre s.heap) (hk : k ≤ n)
    (h : ∀ d o h' tk, Fr g L h' m → News g L h' ((d, o) :: news) → o.IsDictOf (SK w) (arithA ++ arithB) → AllNe d news → Q (.ref d) { s with heap := h', toks := tk }) : wpAny (model PR w) (mkA dp un gd outer) (call (.ref f) args) Q E s :=
  S s Q E dp un gd outer (R.le hk) (Wd.at X T F) hp fun v h' tk hE P9 => by
    obtain ⟨d, e, hn, hsm, hD⟩ := P9
    subst e
    obtain ⟨o, ho, hI⟩ := Heap.dictOf_iff.mp hD
    exact h d o h' tk (fr_ext F hE) (news_new F N hE hn ho) hI (news_ne N hn)
end
theorem SpecC.toL {w : World} {k : Nat} {f : Addr} {args : List Value} {Pre : Heap → Prop} {r : Bool} (hmono : ∀ h h', Ext h h' → Pre h → Pre h') (S : SpecC w k f args Pre (fun _ _ v => v = .bool r)) : LSpec w k f args Pre r :=
  fun s Q E dp un outer hR hX hfr hP hQ => S s Q E dp un outer hR (hX.keeps (hide_ext' _ _)) (hmono _ _ (hide_ext' _ _) hP) fun v h' tk hE e => e ▸ hQ h' tk (fun b o q => hE b o (of_hideAll _ q)) (Heap.UpToSlots.of_keeps hE)
theorem reg50 : True := by
  k_with "call ref" => ((k_here; (fail_if_success (fail_if_success (with_reducible show wpAny _ _ (call (Value.ref 557) _) _ _ _))); k_dflt (refine' Spec.useAr arithmetic_spec ?kR ?kF ?kN ?kX ?kT ?kp ?kk ?_; k_extra "my ctx"; (case kp => trivial); (case kk => decide); k_whole); intro d' o' h' tk' F' N' hI' l1; (try (dsimp only [AllNe] at l1))))
  k_with "getItem ref str" => ((k_here; k_dflt (refine' kdt_getItem (knd := SK _) (kvs := arithA ++ arithB) ?g1 ?g2 ?g3 (is_str _ _) ?g4 ?_; (case g1 => k_asm); (case g2 => k_mem); (case g3 => assumption); (case g4 => assumption); k_whole)))
  trivial
theorem two_ints {vs : List Value} {a b : Int} (h : IntsAre vs [a, b].reverse) : ∃ ta tb, vs = [.int b ta, .int a tb] := by
  have h' : IntsAre vs [b, a] := h
  cases h' with
  | cons _ ta h => cases h with
    | cons _ tb h => cases h with
      | nil => exact ⟨ta, tb, rfl⟩
theorem step_plain {w : World} (nm : Str) (f l : Addr) (ws : List Int) (due eo : Int) (t1 t2 t3 : Tok) (hn : (nm == ("EXP" : Str)) = false) (hv : valueAt (arithA ++ arithB) nm = some (.ref f)) (hkeep : keepIn (hd.heap_39 w.params) (.ref f) = true) (hlen : ws.length ≤ 10)
    (S : ∀ FR D ST, FSpec w 6 f [.none, .ref FR] FR D ST 2000 (ws ++ [5]) 2000 [due, 5] (fun v => v = .none)) : SpecC w 12 712 [.str nm t1, .ref l, .int due t2, .int eo t3] (fun h => IsL h l ws) (fun _ _ v => v = .bool true) := by
  intro s Q E dp un outer hR hX hP hQ
  refine' cEnter (n := 11) (binds := [(Str.ofString "name", .str nm t1), (Str.ofString "words_here", .ref l), (Str.ofString "due", .int due t2), (Str.ofString "exponent_octets", .int eo t3)]) hR hX ?ho ?hB ?hS ?hcd ?hb ?hl ?_ ?h1 ?h2 ?h3 ?h4
  case ho => k_is
  case hB => exact (rfl : List.cons _ _ = List.cons _ _)
  case hS => exact (rfl : Scope.mk _ _ _ _ _ = Scope.mk _ _ _ _ _)
  case hcd => k_is
  case hb => exact BindsTo.of_eq rfl
  case hl => exact locs rfl
  case h1 => rfl
  case h2 => rfl
  case h3 => rfl
  case h4 => decide
  intro L' h₁ mean mg mb F N X T R' env₉ A₉
  (try (conv in (occs := *) (stB _) => all_goals whnf)); (try (conv in (occs := *) (stS _) => all_goals whnf))
  (try dsimp only)
  refine c_execs_cons (c_any ?_)
  k_fold
  k_extra "my words"
  refine c_execs_cons (c_assign_name (c_call_name ?_) rfl)
  k_extra "my words"
  refine c_callPlain (P := fun h => (hd.heap_39 w.params).In h) (keeps_K (by k_is)) (c_any ?_) rfl rfl
  k_extra "my words"
  refine' SpecC.useFrW (law_frame_spec l ws 2000 _) ?kR ?kF ?kN ?kX ?kT ?kp ?kk ?_
  case kp => exact ⟨hP.keeps (Fr.keep (by assumption)), hlen⟩
  case kR => assumption
  case kF => assumption
  case kN => assumption
  case kX => assumption
  case kT => assumption
  case kk => decide
  intro x dx st V K tg nn vs n2 h' tk F' N' hI
  refine c_any ?_
  k_extra "my words"
  refine c_execs_cons (c_expr (c_call_name ?_) rfl rfl)
  k_extra "my words"
  refine c_callPlain (P := fun h => (hd.heap_39 w.params).In h) (keeps_K hkeep) (c_any ?_) rfl rfl
  k_extra "my words"
  refine c_any ?_
  refine' FSpec.use (S x dx st) ?kR ?kF ?kN ?kX ?kT ?m1 ?m2 ?m3 hI ?kk ?_
  case kR => assumption
  case kF => assumption
  case kN => assumption
  case kX => assumption
  case kT => assumption
  case m1 => k_mem
  case m2 => k_mem
  case m3 => k_mem
  case kk => decide
  intro v2 h2 tk2 V2 K2 tg2 n3 n4 vs2 F2 N2 hI2 hP2
  obtain ⟨ta, tb, rfl⟩ := two_ints hI2
  dsimp only [frD, en] at N2
  (try dsimp only)
  refine c_any ?_
  k_extra "my words"
  all_goals first | (exfalso; exact absurd rfl (by assumption)) | skip
  (try dsimp only)
  exact hQ _ _ _ (Fr.keep (by assumption)) rfl

end StS
section St2S
section
open MineH
variable {M : Model} {A : Around} {E : Value → Shared → Prop} {s : Shared} {env : Env} {x y : Expr} {pos : Pos} {Q : Value → Shared → Prop}
theorem c_evalOr (h : wpC M A (eval x env) (fun v s' => wpAny M A (truthy v) (fun t s₂ => if t = true then Q v s₂ else wpC M A (eval y env) Q E s₂) E s') E s) : wpC M A (eval (.BoolOp .Or [x, y] pos) env) Q E s := by
  show wpC M A (boolOp pos .Or [eval x env, eval y env]) Q E s
  refine c_boolOp_cons (c_mono h (fun v s' h' => wpAny_mono h' (fun t s₂ h₂ => ?_) fun _ _ z => z) fun _ _ z => z)
  cases t <;> exact h₂
theorem c_evalAnd (h : wpC M A (eval x env) (fun v s' => wpAny M A (truthy v) (fun t s₂ => if t = true then wpC M A (eval y env) Q E s₂ else Q v s₂) E s') E s) : wpC M A (eval (.BoolOp .And [x, y] pos) env) Q E s := by
  show wpC M A (boolOp pos .And [eval x env, eval y env]) Q E s
  refine c_boolOp_cons (c_mono h (fun v s' h' => wpAny_mono h' (fun t s₂ h₂ => ?_) fun _ _ z => z) fun _ _ z => z)
  cases t <;> exact h₂
theorem c_evalNot (h : wpC M A (eval x env) (fun v s' => wpAny M A (unaryOp .Not v) Q E s') E s) : wpC M A (eval (.UnaryOp .Not x pos) env) Q E s := by
  show wpC M A (do let v ← eval x env; standAt pos; holding [v] (unaryOp .Not v)) Q E s
  exact c_bind (c_mono h (fun v s' h' => c_bind (c_at (c_holding (c_any h')))) fun _ _ z => z)
end
section
variable {w : World} {s : Shared} {Q E : Value → Shared → Prop} {k n dp un : Nat} {outer : List Env} {f a : Addr} {args : List Value} {Pre : Heap → Prop}
  {base : Heap} {L : Addr} {m : Str → Option Value} {mean : ExcName → Option Value} {mg mb : Str → Option Value} {r : Bool} {name : Str} {scope : Scope} {cd : Value}
theorem LSpec.use (S : LSpec w k f args Pre r) (R : Room n dp un) (F : Fr base L s.heap m) (hfr : s.heap.FunFrames base outer) (hb : ∀ b ∈ fra outer, base.get? b = none) (X : (hd.heap_39 w.params).In base) (T : Top VW LS mean mg mb base) (hp : Pre base) (hmono : ∀ h h', Ext h h' → Pre h → Pre h') (hk : k ≤ n) (hkind : scope.kind ≠ .module)
    (h : ∀ h' tk, Fr base L h' m → s.heap.UpToSlots h' → Q (.bool r) { s with heap := h', toks := tk }) : MineH.wpC (model PR w) (mkA dp un (some []) (envOf name scope L a cd :: outer)) (call (.ref f) args) Q E s := by
  have kb : Ext base (hideAll s.heap (fra (envOf name scope L a cd :: outer))) := fun b o q => hideAll_get _ (F.keep b o q) fun hm => by
    rcases kts_mem hm with z | z
    · rw [z, kts_self F] at q; cases q
    · rw [hb b z] at q; cases q
  obtain ⟨oL, esL, epL, hoL, hdL, _⟩ := F.ns
  have hff : s.heap.FunFrames base (envOf name scope L a cd :: outer) := ⟨hkind, ⟨L, oL, rfl, kts_self F, hoL, fun vs z => by rw [hdL] at z; cases z⟩, hfr⟩
  exact S s Q E dp un _ (R.le hk) ⟨X.keeps kb, _, _, _, T.keeps kb⟩ (funFrames_hide hff fun env he b hb => List.mem_filterMap.mpr ⟨env, he, hb⟩) (hmono _ _ kb hp) fun h' tk hE up => h h' tk (F.of_stays (fun b o q => hE b o (kb b o q)) up) up
theorem funFrames_up {h h' : Heap} {l : List Env} (x : h.FunFrames base l) (u : h.UpToSlots h') : h'.FunFrames base l := x.of_keeps fun b o q hn => let ⟨sl, e⟩ := u b o q hn; ⟨_, e, rfl⟩
theorem hide_fra {h : Heap} : ∀ b ∈ fra outer, (hideAll h (fra outer)).get? b = none := fun _ hb => hideAll_none _ hb
end
theorem step_exp {w : World} (l : Addr) (a b eo : Int) (t1 t2 t3 : Tok) (ha0 : 0 ≤ a) (ha1 : a < WORD) (hb0 : 0 ≤ b) (hb1 : b < WORD) (hc : 50 * eo = (50 * (((Builtin.Int.intBits b : Int) + 7).fdiv 8))) (hle : 50 * eo ≤ 2000) : LSpec w 14 712 [.str "EXP" t1, .ref l, .int ((a ^ b.toNat).fmod WORD) t2, .int eo t3] (fun h => IsL h l [a, b]) true := by
  have S : ∀ FR D ST, FSpec w 5 438 [.none, .ref FR] FR D ST 2000 ([a, b] ++ [5]) (2000 - 50 * eo) [(a ^ b.toNat).fmod WORD, 5] (fun v => v = .none) := fun FR D ST => by
    rw [hc]
    exact op_exp_spec FR D ST 2000 a b ha0 ha1 hb0 hb1 (by rw [← hc]; exact hle)
  have hv : valueAt (arithA ++ arithB) ("EXP" : Str) = some (.ref 438) := by decide +kernel
  generalize (a ^ b.toNat).fmod WORD = due at *
  intro s Q E dp un outer hR hXb hfr hPb hQ
  have hX : Wd w s.heap := hXb.keeps (hide_ext' _ _)
  have hP : IsL s.heap l [a, b] := hPb.keeps (hide_ext' _ _)
  obtain ⟨X2, mean2, mg2, mb2, T2⟩ := hXb
  refine' cEnter (n := 13) (binds := [(Str.ofString "name", .str "EXP" t1), (Str.ofString "words_here", .ref l), (Str.ofString "due", .int due t2), (Str.ofString "exponent_octets", .int eo t3)]) hR hX ?ho ?hB ?hS ?hcd ?hb ?hl ?_ ?h1 ?h2 ?h3 ?h4
  case ho => k_is
  case hB => exact (rfl : List.cons _ _ = List.cons _ _)
  case hS => exact (rfl : Scope.mk _ _ _ _ _ = Scope.mk _ _ _ _ _)
  case hcd => k_is
  case hb => exact BindsTo.of_eq rfl
  case hl => exact locs rfl
  case h1 => rfl
  case h2 => rfl
  case h3 => rfl
  case h4 => decide
  intro L' h₁ mean mg mb F N X T R' env₉ A₉
  (try (conv in (occs := *) (stB _) => all_goals whnf)); (try (conv in (occs := *) (stS _) => all_goals whnf))
  (try dsimp only)
  refine c_execs_cons (c_any ?_)
  k_fold
  k_extra "my words"
  refine c_execs_cons (c_assign_name (c_call_name ?_) rfl)
  k_extra "my words"
  refine c_callPlain (P := fun h => (hd.heap_39 w.params).In h) (keeps_K (by k_is)) (c_any ?_) rfl rfl
  k_extra "my words"
  refine' SpecC.useFrW (law_frame_spec l [a, b] 2000 _) ?kR ?kF ?kN ?kX ?kT ?kp ?kk ?_
  case kp => exact ⟨hP.keeps (Fr.keep (by assumption)), Nat.le_of_ble_eq_true rfl⟩
  case kR => assumption
  case kF => assumption
  case kN => assumption
  case kX => assumption
  case kT => assumption
  case kk => decide
  intro x dx st V K tg nn vs n2 h' tk F' N' hI
  refine c_any ?_
  k_extra "my words"
  refine c_execs_cons (c_expr (c_call_name ?_) rfl rfl)
  k_extra "my words"
  refine c_callPlain (P := fun h => (hd.heap_39 w.params).In h) (keeps_K (by k_is)) (c_any ?_) rfl rfl
  k_extra "my words"
  refine c_any ?_
  refine' FSpec.use (S x dx st) ?kR ?kF ?kN ?kX ?kT ?m1 ?m2 ?m3 hI ?kk ?_
  case kR => assumption
  case kF => assumption
  case kN => assumption
  case kX => assumption
  case kT => assumption
  case m1 => k_mem
  case m2 => k_mem
  case m3 => k_mem
  case kk => decide
  intro v2 h2 tk2 V2 K2 tg2 n3 n4 vs2 F2 N2 hI2 hP2
  obtain ⟨ta, tb, rfl⟩ := two_ints hI2
  dsimp only [frD, en] at N2
  (try dsimp only)
  refine c_execs_cons (c_any ?_)
  k_extra "my words"
  all_goals first | (exfalso; exact absurd rfl (by assumption)) | skip
  (try dsimp only)
  refine c_execs_cons (c_return (c_evalOr (c_any ?_)))
  k_extra "my words"
  · have e0 : (50 * eo == (0 : Int)) = true := beq_iff_eq.mpr (by omega)
    (try dsimp only)
    rw [e0]
    rename Fr _ _ _ _ => F9
    have k9 := F9.keep
    exact hQ _ _ (fun b o q => k9 b o (of_hideAll _ q)) (Heap.UpToSlots.of_keeps k9)
  refine c_evalAnd (c_call_name ?_)
  k_extra "my words"
  refine c_callPlain (P := fun h => (hd.heap_39 w.params).In h) (keeps_K (by k_is)) (c_any ?_) rfl rfl
  k_extra "my words"
  rename Fr _ _ _ _ => F9
  have k9 := F9.keep
  have F8 := hide_fr3 F9 (fra outer)
  refine' LSpec.use (base := hideAll s.heap (fra outer)) (lacks_yes l (50 * eo - 1) a b _ ha0 ha1 hb0 hb1 (by omega)) ?kR F8 (funFrames_up hfr (Heap.UpToSlots.of_keeps k9)) hide_fra X2 T2 hPb (fun h h' k x => x.keeps k) ?kk (fun z => nomatch z) ?_
  case kR => assumption
  case kk => decide
  intro h5 tk5 F5 up5
  clear F9 F8 X T
  (try dsimp only)
  k_extra "my words"
  refine c_evalNot (c_call_name ?_)
  k_extra "my words"
  refine c_callPlain (P := fun h => (hd.heap_39 w.params).In h) (keeps_K (by k_is)) (c_any ?_) rfl rfl
  k_extra "my words"
  refine' LSpec.use (base := hideAll s.heap (fra outer)) (lacks_no l (50 * eo) a b _ ha0 ha1 hb0 hb1 (by omega)) ?kR F5 (funFrames_up (funFrames_up hfr (Heap.UpToSlots.of_keeps k9)) up5) hide_fra X2 T2 hPb (fun h h' k x => x.keeps k) ?kk (fun z => nomatch z) ?_
  case kR => assumption
  case kk => decide
  intro h6 tk6 F6 up6
  (try dsimp only)
  k_extra "my words"
  (try dsimp only)
  exact hQ h6 _ F6.keep ((Heap.UpToSlots.of_keeps k9).trans (up5.trans up6))

end St2S
section ZpS
section
variable {prog : Program} {w : World} {A : Around} {E : Value → Shared → Prop} {s : Shared}
theorem wpAny_alive {M : Model} {a : Addr} {Q : Option Obj → Shared → Prop} (h : Q (s.heap.get? a) s) : wpAny M A (loadIfAlive a) Q E s := fun _ _ _ => h
noncomputable abbrev ZipOut (h : Heap) (z TI TO T : Addr) (f : Bool) : Prop :=
  h.get? z = some { cls := .type "zip", dict := none, data := .fields #[rawInt T, .bool f, .bool false, .ref TI, .ref TO], slots := #[] }
theorem zip_not_free {z TI TO T : Addr} {f : Bool} {oT : Obj} {Q' : Bool → Shared → Prop} (hz : ZipOut s.heap z TI TO T f) (hT : s.heap.get? T = some oT) (hQ' : ∀ h₁, ZipOut h₁ z TI TO T true → Heap.SameBut z s.heap h₁ → Q' false { s with heap := h₁ }) :
    wpAny (model prog w) A (Builtin.SmallTypes.ownedTupleIsFree (.ref z)) Q' E s := by
  unfold Builtin.SmallTypes.ownedTupleIsFree
  refine wpAny_bind (wpAny_field hz rfl (x := rawInt T) rfl ?_)
  show wpAny _ _ (loadIfAlive ((T : Int).toNat) >>= _) _ _ _
  rw [Int.toNat_natCast]
  refine wpAny_bind (wpAny_alive ?_)
  rw [hT]
  show wpAny _ _ (field (.ref z) 1 >>= _) _ _ _
  refine wpAny_bind (wpAny_field hz rfl (x := .bool f) rfl ?_)
  cases f with
  | true => exact wpAny_pure (hQ' _ hz (Heap.SameBut.refl ..))
  | false => exact wpAny_bind (wpAny_setField_rec hz (by simp) fun h₁ hz₁ hs₁ => wpAny_pure (hQ' h₁ hz₁ hs₁))
theorem zip_next_more {z TI TO T i1 i2 l1 l2 : Addr} {f : Bool} {k1 k2 : Nat} {xs ys : Array Value} {x y : Value} {Q : Value → Shared → Prop} (D : ZipApart z TI TO i1 i2 l1 l2)
    (hz : ZipOut s.heap z TI TO T f) (hTI : IsPair s.heap TI (.ref i1) (.ref i2)) (hT : ∃ o, s.heap.get? T = some o)
    (h1 : s.heap.IsListIter i1 l1 k1) (h2 : s.heap.IsListIter i2 l2 k2) (hl1 : s.heap.IsList l1 xs) (hl2 : s.heap.IsList l2 ys) (hx : xs[k1]? = some x) (hy : ys[k2]? = some y)
    (hQ : ∀ h', ZipOut h' z TI TO T true → h'.IsListIter i1 l1 (k1 + 1) → h'.IsListIter i2 l2 (k2 + 1) → IsPair h' s.heap.objs.size x y → h'.objs.size = s.heap.objs.size + 1 →
      (∀ c o, c ≠ z → c ≠ i1 → c ≠ i2 → s.heap.get? c = some o → h'.get? c = some o) → Q (.ref s.heap.objs.size) { s with heap := h' }) :
    wpAny (model prog w) A (Builtin.«zip.__next__» ⟨[.ref z], []⟩) (fun fin s' => ∃ v, fin = .done (.ret v) ∧ Q v s') E s := by
  obtain ⟨oT, hT⟩ := hT
  show wpAny _ _ (field (.ref z) 2 >>= _) _ _ _
  refine wpAny_bind (wpAny_field hz rfl (x := .bool false) rfl ?_)
  show wpAny _ _ (field (.ref z) 3 >>= _) _ _ _
  refine wpAny_bind (wpAny_field hz rfl (x := .ref TI) rfl ?_)
  refine wpAny_bind (wpAny_seqItems hTI rfl ?_)
  show wpAny _ _ (Builtin.SmallTypes.ownedTupleIsFree (.ref z) >>= _) _ _ _
  refine wpAny_bind (zip_not_free hz hT fun h₁ hz₁ hs₁ => ?_)
  simp only [Bool.false_eq_true, if_false]
  refine wpAny_bind ?_
  rw [← Array.forIn_toList]
  simp only [List.forIn_cons, List.forIn_nil]
  refine wpAny_bind (wpAny_bind (wpAny_holding ?_))
  show wpAny _ _ (Builtin.SmallTypes.nextOf (.ref i1) >>= _) _ _ _
  refine wpAny_bind (wpAny_nextOf_list_item (h1.extBut hs₁.extBut D.i1z) (hl1.extBut hs₁.extBut D.l1z) hx fun h₂ h1₂ hs₂ => wpAny_pure ?_)
  refine wpAny_pure ?_
  refine wpAny_bind (wpAny_bind (wpAny_holding ?_))
  show wpAny _ _ (Builtin.SmallTypes.nextOf (.ref i2) >>= _) _ _ _
  refine wpAny_bind (wpAny_nextOf_list_item ((h2.extBut hs₁.extBut D.i2z).extBut hs₂.extBut D.i12.symm) ((hl2.extBut hs₁.extBut D.l2z).extBut hs₂.extBut D.l2i1) hy fun h₃ h2₃ hs₃ => wpAny_pure ?_)
  refine wpAny_pure (wpAny_pure ?_)
  refine wpAny_bind (wpAny_newTuple (hsz := by rw [sizeLine_eq]; exact Nat.le_of_ble_eq_true rfl) ?_)
  have hsz : h₃.objs.size = s.heap.objs.size := by rw [hs₃.1, hs₂.1, hs₁.1]
  have up : ∀ c o, h₃.get? c = some o → (h₃.push { cls := .type "tuple", data := .seq #[x, y] }).get? c = some o := fun c o e => Heap.get?_push_of_some _ e
  have hz₃ : ZipOut h₃ z TI TO T true := hs₃.extBut _ _ D.i2z.symm (hs₂.extBut _ _ D.i1z.symm hz₁)
  have hp := Heap.get?_push_size h₃ (o := { cls := .type "tuple", data := .seq #[x, y] }) rfl
  refine wpAny_pure ⟨_, rfl, ?_⟩
  show Q (.ref h₃.objs.size) _
  rw [hsz] at hp ⊢
  exact hQ _ (up _ _ hz₃) ((h1₂.extBut hs₃.extBut D.i12).at fun o e => up _ o e) (h2₃.at fun o e => up _ o e) hp (by rw [Heap.size_push, hsz]) fun c o c1 c2 c3 e => up _ _ (hs₃.extBut _ _ c3 (hs₂.extBut _ _ c2 (hs₁.extBut _ _ c1 e)))
theorem pyNext_zip_more {z TI TO T i1 i2 l1 l2 : Addr} {f : Bool} {k1 k2 : Nat} {xs ys : Array Value} {x y : Value} {Q : Option Value → Shared → Prop} (D : ZipApart z TI TO i1 i2 l1 l2)
    (hz : ZipOut s.heap z TI TO T f) (hTI : IsPair s.heap TI (.ref i1) (.ref i2)) (hT : ∃ o, s.heap.get? T = some o)
    (h1 : s.heap.IsListIter i1 l1 k1) (h2 : s.heap.IsListIter i2 l2 k2) (hl1 : s.heap.IsList l1 xs) (hl2 : s.heap.IsList l2 ys) (hx : xs[k1]? = some x) (hy : ys[k2]? = some y)
    (hQ : ∀ h', ZipOut h' z TI TO T true → h'.IsListIter i1 l1 (k1 + 1) → h'.IsListIter i2 l2 (k2 + 1) → IsPair h' s.heap.objs.size x y → h'.objs.size = s.heap.objs.size + 1 →
      (∀ c o, c ≠ z → c ≠ i1 → c ≠ i2 → s.heap.get? c = some o → h'.get? c = some o) → Q (some (.ref s.heap.objs.size)) { s with heap := h' }) : wpAny (model prog w) A (pyNext (.ref z)) Q E s := by
  have hTy : s.TypeIs (.ref z) "zip" := ⟨_, hz, rfl⟩
  unfold pyNext
  exact wpAny_bind (wpAny_attempt (wpAny_callSpecial?_slot (name := Str.ofString "__next__") hTy F.slot_zip_next
    (wpAny_call_entry F.slot_zip_next hTy F.entry_zip_next
      (zip_next_more D hz hTI hT h1 h2 hl1 hl2 hx hy fun h' a1 a2 a3 a4 a5 a6 => wpAny_pure (hQ h' a1 a2 a3 a4 a5 a6)) (F.args_zip_next_1 _))))
theorem zip_next_stop {z TI TO T i1 i2 l1 l2 : Addr} {f : Bool} {k1 k2 : Nat} {xs ys : Array Value} {Q : Fin → Shared → Prop} (hh : A.handled = none) (D : ZipApart z TI TO i1 i2 l1 l2)
    (hz : ZipOut s.heap z TI TO T f) (hTI : IsPair s.heap TI (.ref i1) (.ref i2)) (hT : ∃ o, s.heap.get? T = some o)
    (h1 : s.heap.IsListIter i1 l1 k1) (hl1 : s.heap.IsList l1 xs) (hx : xs[k1]? = none)
    (hE : ∀ h' e, (∀ c o, c ≠ z → c ≠ i1 → s.heap.get? c = some o → h'.get? c = some o) → (∃ o, h'.get? e = some o ∧ o.cls = .type "StopIteration") → E (.ref e) { s with heap := h' }) :
    wpAny (model prog w) A (Builtin.«zip.__next__» ⟨[.ref z], []⟩) Q E s := by
  obtain ⟨oT, hT⟩ := hT
  show wpAny _ _ (field (.ref z) 2 >>= _) _ _ _
  refine wpAny_bind (wpAny_field hz rfl (x := .bool false) rfl ?_)
  show wpAny _ _ (field (.ref z) 3 >>= _) _ _ _
  refine wpAny_bind (wpAny_field hz rfl (x := .ref TI) rfl ?_)
  refine wpAny_bind (wpAny_seqItems hTI rfl ?_)
  show wpAny _ _ (Builtin.SmallTypes.ownedTupleIsFree (.ref z) >>= _) _ _ _
  refine wpAny_bind (zip_not_free hz hT fun h₁ hz₁ hs₁ => ?_)
  simp only [Bool.false_eq_true, if_false]
  refine wpAny_bind ?_
  rw [← Array.forIn_toList]
  simp only [List.forIn_cons, List.forIn_nil]
  refine wpAny_bind (wpAny_bind (wpAny_holding ?_))
  show wpAny _ _ (Builtin.SmallTypes.nextOf (.ref i1) >>= _) _ _ _
  refine wpAny_bind (wpAny_nextOf_list_end hh (h1.extBut hs₁.extBut D.i1z) (hl1.extBut hs₁.extBut D.l1z) hx fun h₂ e hs₂ he => ?_)
  exact hE h₂ e (fun c o c1 c2 x => hs₂ _ _ c2 (hs₁.extBut _ _ c1 x)) he
theorem pyNext_zip_stop {z TI TO T i1 i2 l1 l2 : Addr} {f : Bool} {k1 k2 : Nat} {xs ys : Array Value} {Q : Option Value → Shared → Prop} (hh : A.handled = none) (D : ZipApart z TI TO i1 i2 l1 l2)
    (hz : ZipOut s.heap z TI TO T f) (hTI : IsPair s.heap TI (.ref i1) (.ref i2)) (hT : ∃ o, s.heap.get? T = some o) (h1 : s.heap.IsListIter i1 l1 k1) (hl1 : s.heap.IsList l1 xs) (hx : xs[k1]? = none)
    (hQ : ∀ h', (∀ c o, c ≠ z → c ≠ i1 → s.heap.get? c = some o → h'.get? c = some o) → Q none { s with heap := h' }) : wpAny (model prog w) A (pyNext (.ref z)) Q E s := by
  have hTy : s.TypeIs (.ref z) "zip" := ⟨_, hz, rfl⟩
  unfold pyNext
  refine wpAny_bind (wpAny_attempt (wpAny_callSpecial?_slot (name := Str.ofString "__next__") hTy F.slot_zip_next
    (wpAny_call_entry F.slot_zip_next hTy F.entry_zip_next (zip_next_stop (k2 := k2) (ys := ys) hh D hz hTI hT h1 hl1 hx fun h' e hk he => ?_) (F.args_zip_next_1 _))))
  obtain ⟨o, ho, hc⟩ := he
  refine wpAny_bind (wpAny_isInstance (T := "StopIteration") (b := true) ⟨o, ho, hc⟩ isSubtype_stop ?_)
  exact wpAny_pure (hQ _ hk)
end

end ZpS
section ZlS
section
variable {prog : Program} {w : World} {A : Around} {E : Value → Shared → Prop} {s : Shared} {R : Result → Shared → Prop}
structure ZipInv (h : Heap) (z TI TO i1 i2 l1 l2 S : Addr) (xs ys acc : Array Value) (lo i : Nat) : Prop where
  out : (i = 0 ∧ IsZip h z TI TO .none) ∨ ∃ T f, ZipOut h z TI TO T f ∧ (∃ o, h.get? T = some o) ∧ @LE.le Nat _ lo T
  ti : IsPair h TI (.ref i1) (.ref i2)
  to : ∃ a b, IsPair h TO a b
  it1 : h.IsListIter i1 l1 i
  it2 : h.IsListIter i2 l2 i
  ls1 : h.IsList l1 xs
  ls2 : h.IsList l2 ys
  size : acc.size = i
  pairs : ∀ j, j < i → ∃ T x y, acc[j]? = some (.ref T) ∧ xs[j]? = some x ∧ ys[j]? = some y ∧ IsPair h T x y ∧ @LE.le Nat _ lo T
  room : lo ≤ h.objs.size
  apart : ZipApart z TI TO i1 i2 l1 l2
  low : z < lo ∧ TI < lo ∧ TO < lo ∧ i1 < lo ∧ i2 < lo ∧ S < lo
  offS : S ≠ z ∧ S ≠ TI ∧ S ≠ TO ∧ S ≠ i1 ∧ S ≠ i2 ∧ S ≠ l1 ∧ S ≠ l2
variable {z TI TO i1 i2 l1 l2 S : Addr} {xs ys acc : Array Value} {lo i : Nat}
theorem ZipInv.turnS {h h' : Heap} (V : ZipInv h z TI TO i1 i2 l1 l2 S xs ys acc lo i) (k : ∀ c o, c ≠ S → h.get? c = some o → h'.get? c = some o) (hs : h.objs.size ≤ h'.objs.size) : ZipInv h' z TI TO i1 i2 l1 l2 S xs ys acc lo i where
  out := by
    obtain ⟨s1, s2, s3, s4, s5, s6, s7⟩ := V.offS
    rcases V.out with ⟨e, hz⟩ | ⟨T, f, hz, ⟨o, ho⟩, hl⟩
    · exact .inl ⟨e, k _ _ (Ne.symm s1) hz⟩
    · exact .inr ⟨T, f, k _ _ (Ne.symm s1) hz, ⟨o, k _ _ (fun q => absurd V.low.2.2.2.2.2 (by rw [← q]; exact Nat.not_lt.mpr hl)) ho⟩, hl⟩
  ti := k _ _ (Ne.symm V.offS.2.1) V.ti
  to := let ⟨a, b, e⟩ := V.to; ⟨a, b, k _ _ (Ne.symm V.offS.2.2.1) e⟩
  it1 := V.it1.at fun o e => k _ o (Ne.symm V.offS.2.2.2.1) e
  it2 := V.it2.at fun o e => k _ o (Ne.symm V.offS.2.2.2.2.1) e
  ls1 := V.ls1.at fun o e => k _ o (Ne.symm V.offS.2.2.2.2.2.1) e
  ls2 := V.ls2.at fun o e => k _ o (Ne.symm V.offS.2.2.2.2.2.2) e
  size := V.size
  pairs := fun j hj => let ⟨T, x, y, a, b, c, d, e⟩ := V.pairs j hj; ⟨T, x, y, a, b, c, k _ _ (fun q => absurd V.low.2.2.2.2.2 (by rw [← q]; exact Nat.not_lt.mpr e)) d, e⟩
  room := Nat.le_trans V.room hs
  apart := V.apart
  low := V.low
  offS := V.offS
theorem ZipInv.next {h h' : Heap} {f : Bool} {T' : Addr} {x y : Value} (V : ZipInv h z TI TO i1 i2 l1 l2 S xs ys acc lo i) (hx : xs[i]? = some x) (hy : ys[i]? = some y) (hz : ZipOut h' z TI TO T' f) (hT' : ∃ o, h'.get? T' = some o) (hl' : @LE.le Nat _ lo T') (to : ∃ a b, IsPair h' TO a b) (t1 : h'.IsListIter i1 l1 (i + 1)) (t2 : h'.IsListIter i2 l2 (i + 1))
    (hp : IsPair h' h.objs.size x y) (hsz : h'.objs.size = h.objs.size + 1) (k : ∀ c o, c ≠ z → c ≠ TO → c ≠ i1 → c ≠ i2 → h.get? c = some o → h'.get? c = some o) : ZipInv h' z TI TO i1 i2 l1 l2 S xs ys (acc.push (.ref h.objs.size)) lo (i + 1) where
  out := .inr ⟨T', f, hz, hT', hl'⟩
  ti := k _ _ V.apart.TIz V.apart.TITO V.apart.TIi1 V.apart.TIi2 V.ti
  to := to
  it1 := t1
  it2 := t2
  ls1 := V.ls1.at fun o e => k _ o V.apart.l1z V.apart.l1TO V.apart.l1i1 V.apart.l1i2 e
  ls2 := V.ls2.at fun o e => k _ o V.apart.l2z V.apart.l2TO V.apart.l2i1 V.apart.l2i2 e
  size := by rw [Array.size_push, V.size]
  pairs := fun j hj => by
    obtain ⟨w1, w2, w3, w4, w5, w6⟩ := V.low
    by_cases q : j = i
    · subst q
      exact ⟨_, x, y, by rw [Array.getElem?_push, if_pos V.size.symm], hx, hy, hp, V.room⟩
    · obtain ⟨T, x', y', a, b, c, d, e⟩ := V.pairs j (by (first | lia | omega))
      have ne : ∀ b : Addr, b < lo → T ≠ b := fun b hb q => absurd hb (by rw [← q]; exact Nat.not_lt.mpr e)
      exact ⟨T, x', y', by rw [Array.getElem?_push, if_neg (by rw [V.size]; exact q)]; exact a, b, c, k _ _ (ne _ w1) (ne _ w3) (ne _ w4) (ne _ w5) d, e⟩
  room := by rw [hsz]; exact Nat.le_succ_of_le V.room
  apart := V.apart
  low := V.low
  offS := V.offS
theorem zip_item {Q : Option Value → Shared → Prop} (V : ZipInv s.heap z TI TO i1 i2 l1 l2 S xs ys acc lo i) (hi : i < xs.size) (hn : ys.size = xs.size)
    (hQ : ∀ T h', ZipInv h' z TI TO i1 i2 l1 l2 S xs ys (acc.push (.ref T)) lo (i + 1) → (∀ c o, c ≠ z → c ≠ TO → c ≠ i1 → c ≠ i2 → s.heap.get? c = some o → h'.get? c = some o) → s.heap.objs.size ≤ h'.objs.size → Q (some (.ref T)) { s with heap := h' }) :
    wpAny (model prog w) A (pyNext (.ref z)) Q E s := by
  have hx : xs[i]? = some xs[i] := Array.getElem?_eq_getElem hi
  have hy : ys[i]? = some (ys[i]'(by (first | lia | omega))) := Array.getElem?_eq_getElem (by (first | lia | omega))
  obtain ⟨a, b, hTO⟩ := V.to
  rcases V.out with ⟨_, hz⟩ | ⟨T, f, hz, hT, hl⟩
  · refine wpAny_pyNext_zip_item V.apart hz V.ti hTO V.it1 V.it2 V.ls1 V.ls2 hx hy fun h' a1 a2 a3 a4 a5 a6 a7 => ?_
    exact hQ _ h' (V.next (f := false) hx hy a1 ⟨_, a5⟩ V.room ⟨_, _, a2⟩ a3 a4 a5 a6 a7) a7 (by rw [a6]; exact Nat.le_succ _)
  · refine pyNext_zip_more V.apart hz V.ti hT V.it1 V.it2 V.ls1 V.ls2 hx hy fun h' a1 a2 a3 a4 a5 a6 => ?_
    have k7 : ∀ c o, c ≠ z → c ≠ TO → c ≠ i1 → c ≠ i2 → s.heap.get? c = some o → h'.get? c = some o := fun c o c1 _ c3 c4 e => a6 c o c1 c3 c4 e
    obtain ⟨oT, hoT⟩ := hT
    obtain ⟨w1, w2, w3, w4, w5, w6⟩ := V.low
    have ne : ∀ b : Addr, b < lo → T ≠ b := fun b hb q => absurd hb (by rw [← q]; exact Nat.not_lt.mpr hl)
    exact hQ _ h' (V.next (f := true) hx hy a1 ⟨_, a6 _ _ (ne _ w1) (ne _ w4) (ne _ w5) hoT⟩ hl ⟨_, _, a6 _ _ V.apart.TOz V.apart.TOi1 V.apart.TOi2 hTO⟩ a2 a3 a4 a5 k7) k7 (by rw [a5]; exact Nat.le_succ _)
theorem zip_done {Q : Option Value → Shared → Prop} (hh : A.handled = none) (V : ZipInv s.heap z TI TO i1 i2 l1 l2 S xs ys acc lo i) (hi : i = xs.size)
    (hQ : ∀ h', (∀ c o, c ≠ z → c ≠ TO → c ≠ i1 → c ≠ i2 → s.heap.get? c = some o → h'.get? c = some o) → Q none { s with heap := h' }) : wpAny (model prog w) A (pyNext (.ref z)) Q E s := by
  have hx : xs[i]? = none := Array.getElem?_eq_none (by (first | lia | omega))
  obtain ⟨a, b, hTO⟩ := V.to
  rcases V.out with ⟨_, hz⟩ | ⟨T, f, hz, hT, hl⟩
  · exact wpAny_pyNext_zip_end hh V.apart hz V.ti hTO V.it1 V.it2 V.ls1 V.ls2 (.inl hx) hQ
  · exact pyNext_zip_stop (k2 := i) (ys := ys) hh V.apart hz V.ti hT V.it1 V.ls1 hx fun h' k => hQ h' fun c o c1 _ c3 _ e => k c o c1 c3 e
theorem zip_loop (hh : A.handled = none) (hn : ys.size = xs.size) (hsz : xs.size ≤ 4096) (res : Value) : ∀ (k i : Nat) (s : Shared) (acc : Array Value) (c : Nat), xs.size - i = k → i ≤ xs.size → ZipInv s.heap z TI TO i1 i2 l1 l2 S xs ys acc lo i →
    s.heap.get? S = some { cls := .type "list", dict := none, data := .seq acc c, slots := #[] } →
    (∀ h' acc' c', (∀ b o, b ≠ S → b ≠ z → b ≠ TO → b ≠ i1 → b ≠ i2 → s.heap.get? b = some o → h'.get? b = some o) → h'.get? S = some { cls := .type "list", dict := none, data := .seq acc' c', slots := #[] } → acc'.size = xs.size →
      (∀ j, j < xs.size → ∃ T x y, acc'[j]? = some (.ref T) ∧ xs[j]? = some x ∧ ys[j]? = some y ∧ IsPair h' T x y ∧ @LE.le Nat _ lo T) → R (.ok (.ret res)) { s with heap := h' }) →
    codeAny (model prog w) A (.builtin "list.extend.loop" ⟨[.ref S, .ref z, res], []⟩) R s := by
  intro k
  induction k with
  | zero =>
    intro i s acc c hk hi V hS hR
    refine codeAny_builtin F.entry_extend_loop ?_
    rw [Around.under_plainId F.plain_extend_loop _]
    show wpAny _ A.in1 (pyNext (.ref z) >>= _) _ _ s
    obtain ⟨s1, s2, s3, s4, s5, s6, s7⟩ := V.offS
    obtain ⟨w1, w2, w3, w4, w5, w6⟩ := V.low
    refine wpAny_bind (zip_done hh V (by (first | lia | omega)) fun h' k' => wpAny_pure (hR h' acc c (fun b o _ c1 c2 c3 c4 e => k' b o c1 c2 c3 c4 e) (k' _ _ s1 s3 s4 s5 hS) (by rw [V.size]; (first | lia | omega)) fun j hj => ?_))
    obtain ⟨T, x, y, a, b, c, d, e⟩ := V.pairs j (by (first | lia | omega))
    have ne : ∀ b : Addr, b < lo → T ≠ b := fun b hb q => absurd hb (by rw [← q]; exact Nat.not_lt.mpr e)
    exact ⟨T, x, y, a, b, c, k' _ _ (ne _ w1) (ne _ w3) (ne _ w4) (ne _ w5) d, e⟩
  | succ k ih =>
    intro i s acc c hk hi V hS hR
    refine codeAny_builtin F.entry_extend_loop ?_
    rw [Around.under_plainId F.plain_extend_loop _]
    show wpAny _ A.in1 (pyNext (.ref z) >>= _) _ _ s
    obtain ⟨s1, s2, s3, s4, s5, s6, s7⟩ := V.offS
    refine wpAny_bind (zip_item V (by (first | lia | omega)) hn fun T h' V' k' hsz' => ?_)
    have hS' := k' _ _ s1 s3 s4 s5 hS
    show wpAny _ A.in1 (updateSeq S (·.push (.ref T)) >>= _) _ _ _
    refine wpAny_bind ?_
    refine wpAny_updateSeq hS' rfl (wpAny_pure ⟨plainId_quiet F.plain_extend_loop _, ih (i + 1) _ (acc.push (.ref T)) _ (by (first | lia | omega)) (by (first | lia | omega)) (V'.turnS (fun c o hc e => (Heap.get?_update_other _ _ (Ne.symm hc)).trans e) (by rw [Heap.size_after_update]; exact Nat.le_refl _)) (Heap.get?_update_self _ hS' rfl) fun h'' acc' c' k'' hS'' hsz'' hp => ?_⟩)
      (by rw [V.size]; show _ ≤ sizeLine; rw [sizeLine_eq]; (first | lia | omega)) (by show (acc.push (.ref T)).size ≤ sizeLine + 1; rw [Array.size_push, V.size, sizeLine_eq]; (first | lia | omega))
    exact hR h'' acc' c' (fun b o b1 b2 b3 b4 b5 e => k'' b o b1 b2 b3 b4 b5 ((Heap.get?_update_other _ _ (Ne.symm b1)).trans (k' b o b2 b3 b4 b5 e))) hS'' hsz'' hp
theorem zip_no_len : typeLookup (.type "zip") "__len__" = pure none := by rw [typeLookup_type, builtinLookup_eq_fast]; kernel_rfl
theorem zip_no_hint : typeLookup (.type "zip") "__length_hint__" = pure none := by rw [typeLookup_type, builtinLookup_eq_fast]; kernel_rfl
noncomputable abbrev ZipGoal (R : Result → Shared → Prop) (res : Value) (z TI TO i1 i2 S : Addr) (xs ys : Array Value) (lo : Nat) (s : Shared) : Prop :=
    (∀ h' acc' c', (∀ b o, b ≠ S → b ≠ z → b ≠ TO → b ≠ i1 → b ≠ i2 → s.heap.get? b = some o → h'.get? b = some o) → h'.get? S = some { cls := .type "list", dict := none, data := .seq acc' c', slots := #[] } → acc'.size = xs.size →
      (∀ j, j < xs.size → ∃ T x y, acc'[j]? = some (.ref T) ∧ xs[j]? = some x ∧ ys[j]? = some y ∧ IsPair h' T x y ∧ @LE.le Nat _ lo T) → R (.ok (.ret res)) { s with heap := h' })
theorem zip_extend (hh : A.handled = none) (hn : ys.size = xs.size) (hsz : xs.size ≤ 4096) (res : Value) (c₀ : Nat) (V : ZipInv s.heap z TI TO i1 i2 l1 l2 S xs ys #[] lo 0) (hz0 : IsZip s.heap z TI TO .none) (hS : s.heap.get? S = some { cls := .type "list", data := .seq #[] c₀ })
    (hR : ZipGoal R res z TI TO i1 i2 S xs ys lo s) :
    wpAny (model prog w) A.in1 (Builtin.List.listExtendWith (.ref S) (.ref z) res)
      (fun fin s' => match fin with | .done f => R (.ok f) s' | .again c' => c'.quiet = true ∧ codeAny (model prog w) A c' R s') (fun e s' => R (.error e) s') s := by
  obtain ⟨s1, s2, s3, s4, s5, s6, s7⟩ := V.offS
  obtain ⟨f0, hz⟩ : ∃ f0, IsZip s.heap z TI TO f0 := by
    exact ⟨_, hz0⟩
  have hT : s.TypeIs (.ref z) "zip" := ⟨_, hz, rfl⟩
  unfold Builtin.List.listExtendWith
  refine wpAny_bind (wpAny_typeOf hT ?_)
  have h1 : Builtin.List.listSameRef (.ref S) (.ref z) = false := by simp [Builtin.List.listSameRef, s1]
  have h2 : (Value.type "zip" == Value.type "list") = false := by decide
  have h3 : (Value.type "zip" == Value.type "tuple") = false := by decide
  simp only [h1, h2, h3, Bool.or_false, Bool.false_eq_true, if_false]
  refine wpAny_bind (wpAny_pyIter_zip hz ?_)
  refine wpAny_bind (wpAny_holding ?_)
  unfold Builtin.List.listLengthHint
  refine wpAny_bind (wpAny_specialOf hT zip_no_len ?_)
  show wpAny _ A.in1 (specialOf (Value.ref z) (Str.ofString "__length_hint__") >>= _) _ _ _
  refine wpAny_bind (wpAny_specialOf hT zip_no_hint ?_)
  refine wpAny_pure ?_
  show wpAny _ A.in1 (rule "list.extend.makes-room" >>= fun _ => Builtin.List.listTouch (.ref S) >>= fun _ =>
    again (.builtin "list.extend.loop" ⟨[.ref S, .ref z, res], []⟩)) _ _ _
  refine wpAny_bind (wpAny_rule ?_)
  refine wpAny_bind ?_
  show wpAny _ A.in1 (updateSeq S (·.push .none) >>= fun _ => updateSeq S (·.pop)) _ _ _
  refine wpAny_bind (wpAny_updateSeq hS rfl ?_)
  have hS₂ := Heap.get?_update_self (Obj.mapSeq (·.push Value.none)) hS rfl
  refine wpAny_updateSeq (hz := by seq_fits) hS₂ rfl ?_
  have hS₃ := Heap.get?_update_self (Obj.mapSeq (·.pop)) hS₂ rfl
  have oth : ∀ b o, b ≠ S → s.heap.get? b = some o → ((s.heap.update S (Obj.mapSeq (·.push Value.none))).update S (Obj.mapSeq (·.pop))).get? b = some o :=
    fun b o hb e => (Heap.get?_update_other _ _ (Ne.symm hb)).trans ((Heap.get?_update_other _ _ (Ne.symm hb)).trans e)
  refine wpAny_pure ⟨plainId_quiet F.plain_extend_loop _, zip_loop hh hn hsz res _ 0 _ _ _ rfl (Nat.zero_le _) (V.turnS (fun c o hc e => oth c o hc e) (by rw [Heap.size_after_update, Heap.size_after_update]; exact Nat.le_refl _)) hS₃ fun h' acc' c' k' hS' hz' hp => ?_⟩
  exact hR h' acc' c' (fun b o b1 b2 b3 b4 b5 e => k' b o b1 b2 b3 b4 b5 (oth b o b1 e)) hS' hz' hp
theorem zip_list_init (hh : A.handled = none) (hn : ys.size = xs.size) (hsz : xs.size ≤ 4096) (V : ZipInv s.heap z TI TO i1 i2 l1 l2 S xs ys #[] lo 0) (hz0 : IsZip s.heap z TI TO .none) (hS : s.heap.get? S = some { cls := .type "list", data := .seq #[] })
    (hR : ZipGoal R .none z TI TO i1 i2 S xs ys lo s) :
    wpAny (model prog w) A.in1 (Builtin.«list.__init__» ⟨[.ref S, .ref z], []⟩)
      (fun fin s' => match fin with | .done f => R (.ok f) s' | .again c' => c'.quiet = true ∧ codeAny (model prog w) A c' R s') (fun e s' => R (.error e) s') s := by
  show wpAny _ A.in1 (do let old ← Builtin.List.listItems (.ref S); Builtin.List.listUpdate (.ref S) (fun _ => #[]); letGo old.toList.reverse; Builtin.List.listExtendWith (.ref S) (.ref z) .none) _ _ s
  refine wpAny_bind ?_
  unfold Builtin.List.listItems
  refine wpAny_bind (wpAny_seqItems hS rfl (wpAny_pure ?_))
  show wpAny _ A.in1 (updateSeq S (fun _ => #[]) >>= fun _ => letGo (#[] : Array Value).toList.reverse >>= fun _ => Builtin.List.listExtendWith (.ref S) (.ref z) .none) _ _ s
  refine wpAny_bind (wpAny_updateSeq hS rfl ?_)
  have hS₂ := Heap.get?_update_self (Obj.mapSeq (fun _ => (#[] : Array Value))) hS rfl
  have oth : ∀ b o, b ≠ S → s.heap.get? b = some o → (s.heap.update S (Obj.mapSeq (fun _ => (#[] : Array Value)))).get? b = some o :=
    fun b o hb e => (Heap.get?_update_other _ _ (Ne.symm hb)).trans e
  refine wpAny_bind (wpAny_letGo ?_)
  refine zip_extend hh hn hsz .none _ (V.turnS (fun c o hc e => oth c o hc e) (by rw [Heap.size_after_update]; exact Nat.le_refl _)) (oth _ _ (Ne.symm V.offS.1) hz0) hS₂ fun h' acc' c' k' hS' hz' hp => ?_
  exact hR h' acc' c' (fun b o b1 b2 b3 b4 b5 e => k' b o b1 b2 b3 b4 b5 (oth b o b1 e)) hS' hz' hp
theorem call_list_zip {Q : Value → Shared → Prop} (hh : A.handled = none) (hn : ys.size = xs.size) (hsz : xs.size ≤ 4096) (D : ZipApart z TI TO i1 i2 l1 l2) (hz : IsZip s.heap z TI TO .none) (hTI : IsPair s.heap TI (.ref i1) (.ref i2)) (hTO : ∃ a b, IsPair s.heap TO a b)
    (h1 : s.heap.IsListIter i1 l1 0) (h2 : s.heap.IsListIter i2 l2 0) (hl1 : s.heap.IsList l1 xs) (hl2 : s.heap.IsList l2 ys)
    (hQ : ∀ h' acc' c', (∀ b o, b ≠ z → b ≠ TO → b ≠ i1 → b ≠ i2 → s.heap.get? b = some o → h'.get? b = some o) → h'.get? s.heap.objs.size = some { cls := .type "list", dict := none, data := .seq acc' c', slots := #[] } → acc'.size = xs.size →
      (∀ j, j < xs.size → ∃ T x y, acc'[j]? = some (.ref T) ∧ xs[j]? = some x ∧ ys[j]? = some y ∧ IsPair h' T x y ∧ @LT.lt Nat _ s.heap.objs.size T) → Q (.ref s.heap.objs.size) { s with heap := h' }) :
    wpAny (model prog w) A (call (.type "list") [.ref z]) Q E s := by
  refine callType_codes (Q₁ := fun obj s₁ => obj = .ref s.heap.objs.size ∧ s₁ = { s with heap := s.heap.push { cls := .type "list", data := .seq #[] } }) F.called_list (F.typeCall_list_1 _) F.entry_list_init
    (code_list_new _ ⟨rfl, rfl⟩) fun obj s₁ h₁ => ?_
  obtain ⟨rfl, rfl⟩ := h₁
  have hS : (s.heap.push { cls := .type "list", data := .seq #[] }).get? s.heap.objs.size = some { cls := .type "list", data := .seq #[] } := Heap.get?_push_size _ rfl
  have up : ∀ b o, s.heap.get? b = some o → (s.heap.push { cls := .type "list", data := .seq #[] }).get? b = some o := fun b o e => Heap.get?_push_of_some _ e
  have zl : z < s.heap.objs.size := Heap.lt_size hz
  have til : TI < s.heap.objs.size := Heap.lt_size hTI
  have tol : TO < s.heap.objs.size := let ⟨_, _, e⟩ := hTO; Heap.lt_size e
  have i1l : i1 < s.heap.objs.size := let ⟨_, e, _⟩ := h1; Heap.lt_size e
  have i2l : i2 < s.heap.objs.size := let ⟨_, e, _⟩ := h2; Heap.lt_size e
  have l1l : l1 < s.heap.objs.size := let ⟨_, e, _⟩ := hl1; Heap.lt_size e
  have l2l : l2 < s.heap.objs.size := let ⟨_, e, _⟩ := hl2; Heap.lt_size e
  have V : ZipInv (s.heap.push { cls := .type "list", data := .seq #[] }) z TI TO i1 i2 l1 l2 s.heap.objs.size xs ys #[] (s.heap.objs.size + 1) 0 := {
    out := .inl ⟨rfl, up _ _ hz⟩
    ti := up _ _ hTI
    to := let ⟨a, b, e⟩ := hTO; ⟨a, b, up _ _ e⟩
    it1 := h1.at fun o e => up _ o e
    it2 := h2.at fun o e => up _ o e
    ls1 := hl1.at fun o e => up _ o e
    ls2 := hl2.at fun o e => up _ o e
    size := rfl
    pairs := fun j hj => absurd hj (Nat.not_lt_zero _)
    room := by rw [Heap.size_push]; exact Nat.le_refl _
    apart := D
    low := ⟨Nat.lt_succ_of_lt zl, Nat.lt_succ_of_lt til, Nat.lt_succ_of_lt tol, Nat.lt_succ_of_lt i1l, Nat.lt_succ_of_lt i2l, Nat.lt_succ_self _⟩
    offS := ⟨Nat.ne_of_gt zl, Nat.ne_of_gt til, Nat.ne_of_gt tol, Nat.ne_of_gt i1l, Nat.ne_of_gt i2l, Nat.ne_of_gt l1l, Nat.ne_of_gt l2l⟩ }
  refine ⟨⟨_, hS, rfl⟩, F.args_list_init_2 _ _, zip_list_init (A := A.in1) hh hn hsz V (up _ _ hz) hS fun h' acc' c' k' hS' hz' hp => ?_⟩
  exact ⟨rfl, hQ h' acc' c' (fun b o b1 b2 b3 b4 e => k' b o (Nat.ne_of_lt (Heap.lt_size e)) b1 b2 b3 b4 (up _ _ e)) hS' hz' hp⟩
end

end ZlS
section MrS
theorem WORD_pow : WORD = 2 ^ 256 := by decide +kernel
theorem row_div {a b : Int} (hb : 0 ≤ b) : (if b = 0 then 0 else a / b) = (if b = 0 then 0 else a.fdiv b) := by
  rw [Int.fdiv_eq_ediv_of_nonneg _ hb]
theorem row_mod {a b : Int} (hb : 0 ≤ b) : (if b = 0 then 0 else a % b) = (if b = 0 then 0 else a.fmod b) := by
  rw [Int.fmod_eq_emod_of_nonneg _ hb]
theorem wt_zeros (k : Nat) (ns : List Int) : wt (List.replicate k 0 ++ ns) = 2 ^ k * wt ns := by
  obtain ⟨r, rfl⟩ : ∃ r, ns = r.reverse := ⟨ns.reverse, by simp⟩
  induction r with
  | nil =>
    rw [List.reverse_nil, List.append_nil, wt_nil, Int.mul_zero]
    induction k with
    | zero => rfl
    | succ k ih => rw [List.replicate_succ', wt_snoc, ih]; simp
  | cons b r ih =>
    rw [List.reverse_cons, ← List.append_assoc, wt_snoc, ih, wt_snoc, List.length_append, List.length_replicate, Int.pow_add, Int.mul_add]
    congr 1
    rw [← Int.mul_assoc, ← Int.mul_assoc, Int.mul_comm b]
theorem shr_wt {a : Int} {j : Nat} (h0 : 0 ≤ a) (h1 : a < WORD) (hj : j ≤ 256) : wt ((bitsN a 256).drop j) = a / 2 ^ j := by
  rw [bitsN_drop, wt_bitsN]
  refine Int.emod_eq_of_lt (Int.ediv_nonneg h0 (Int.pow_nonneg (by decide))) ?_
  refine Int.ediv_lt_of_lt_mul (Int.pow_pos (by decide)) ?_
  rw [← Int.pow_add, Nat.sub_add_cancel hj, ← WORD_pow]
  exact h1
theorem row_shr {a p : Int} (h0 : 0 ≤ a) (h1 : a < WORD) (hp : 0 ≤ p) : wt ((bitsN a 256).drop (if p < 256 then p else 256).toNat) = (if p ≥ 256 then 0 else a.fdiv (2 ^ p.toNat)) := by
  by_cases h : p < 256
  · rw [if_pos h, if_neg (by (first | lia | omega)), shr_wt h0 h1 (by (first | lia | omega)), Int.fdiv_eq_ediv_of_nonneg _ (Int.pow_nonneg (by decide))]
  · rw [if_neg h, if_pos (by (first | lia | omega))]
    have e : (bitsN a 256).drop (256 : Int).toNat = [] := List.drop_eq_nil_of_le (by rw [bitsN_length]; exact Nat.le_refl _)
    rw [e, wt_nil]
theorem shl_wt {a : Int} {k : Nat} (hk : k ≤ 256) : wt ((List.replicate k 0 ++ bitsN a 256).take 256) = (a * 2 ^ k) % WORD := by
  rw [List.take_append, List.length_replicate, List.take_of_length_le (by rw [List.length_replicate]; exact hk), bitsN_take _ _ _ (Nat.sub_le ..), wt_zeros, wt_bitsN, WORD_pow]
  have e : (2 : Int) ^ 256 = 2 ^ k * 2 ^ (256 - k) := by rw [← Int.pow_add, Nat.add_sub_cancel' hk]
  rw [e, Int.mul_comm a, Int.mul_emod_mul_of_pos _ _ (Int.pow_pos (by decide))]
theorem row_shl {a p : Int} (hp : 0 ≤ p) : wt ((List.replicate (if p < 256 then p else 256).toNat 0 ++ bitsN a 256).take 256) = (if p ≥ 256 then 0 else (a * 2 ^ p.toNat).fmod WORD) := by
  by_cases h : p < 256
  · rw [if_pos h, if_neg (by (first | lia | omega)), shl_wt (by (first | lia | omega)), fmodW]
  · rw [if_neg h, if_pos (by (first | lia | omega)), shl_wt (by decide), WORD_pow]
    exact Int.mul_emod_left ..
theorem wt_append (xs ys : List Int) : wt (xs ++ ys) = wt xs + 2 ^ xs.length * wt ys := by
  obtain ⟨r, rfl⟩ : ∃ r, ys = r.reverse := ⟨ys.reverse, by simp⟩
  induction r with
  | nil => rw [List.reverse_nil, List.append_nil, wt_nil, Int.mul_zero, Int.add_zero]
  | cons b r ih =>
    rw [List.reverse_cons, ← List.append_assoc, wt_snoc, ih, wt_snoc, List.length_append, Int.pow_add, Int.mul_add]
    have e : b * (2 ^ xs.length * 2 ^ r.reverse.length) = 2 ^ xs.length * (b * 2 ^ r.reverse.length) := by rw [← Int.mul_assoc, ← Int.mul_assoc, Int.mul_comm b]
    rw [e]
    (first | lia | omega)
theorem wt_rep (b : Int) : ∀ k, wt (List.replicate k b) = b * (2 ^ k - 1)
  | 0 => by rw [List.replicate_zero, wt_nil]; simp
  | k + 1 => by
    rw [List.replicate_succ', wt_snoc, wt_rep b k, List.length_replicate, Int.pow_succ, Int.mul_sub, Int.mul_sub, ← Int.mul_assoc]
    (first | lia | omega)
theorem row_byte {a q : Int} (hq : 0 ≤ q) (hlt : q < 32) : (digits (bitsN a 256)).getD q.toNat 0 = (a.fdiv (2 ^ (8 * (32 - 1 - q)).toNat)) % 256 := by
  have hn : q.toNat < 32 := by (first | lia | omega)
  have e : (digits (bitsN a 256)).getD q.toNat 0 = wt (((bitsN a 256).drop (248 - 8 * q.toNat)).take 8) := by
    simp [digits, List.getD, hn]
  rw [e, digit_at (by (first | lia | omega)), Int.fdiv_eq_ediv_of_nonneg _ (Int.pow_nonneg (by decide))]
  have e2 : (8 * (32 - 1 - q)).toNat = 248 - 8 * q.toNat := by (first | lia | omega)
  rw [e2]
theorem top_bit {a : Int} (h0 : 0 ≤ a) (h1 : a < WORD) : (bitsN a 256).getD 255 0 = if a ≥ HALF then 1 else 0 := by
  rw [bitsN_get _ _ _ (by decide)]
  have e : (2 : Int) ^ 255 = HALF := by decide +kernel
  rw [e]
  simp only [WORD, HALF] at *
  split <;> (first | lia | omega)
theorem sar_wt {a : Int} {k : Nat} (h0 : 0 ≤ a) (h1 : a < WORD) (hk : k ≤ 256) : wt ((bitsN a 256).drop k ++ List.replicate k ((bitsN a 256).getD 255 0)) = (withSign a).fdiv (2 ^ k) % WORD := by
  have hp : (0 : Int) < 2 ^ k := Int.pow_pos (by decide)
  have e : (2 : Int) ^ 256 = 2 ^ (256 - k) * 2 ^ k := by rw [← Int.pow_add, Nat.sub_add_cancel hk]
  have hq : (0 : Int) < 2 ^ (256 - k) := Int.pow_pos (by decide)
  rw [wt_append, shr_wt h0 h1 hk, List.length_drop, bitsN_length, wt_rep, top_bit h0 h1, Int.fdiv_eq_ediv_of_nonneg _ (Int.le_of_lt hp)]
  have hd0 : 0 ≤ a / 2 ^ k := Int.ediv_nonneg h0 (Int.le_of_lt hp)
  have hd1 : a / 2 ^ k < 2 ^ (256 - k) := Int.ediv_lt_of_lt_mul hp (by rw [← e, ← WORD_pow]; exact h1)
  have hle : (2 : Int) ^ (256 - k) ≤ WORD := by rw [WORD_pow]; exact_mod_cast Nat.pow_le_pow_right (n := 2) (by decide) (Nat.sub_le 256 k)
  by_cases h : a ≥ HALF
  · rw [if_pos h]
    have ew : withSign a = a - WORD := by unfold withSign; rw [if_pos h]
    have e3 : (a - WORD) / 2 ^ k = a / 2 ^ k - 2 ^ (256 - k) := by
      rw [WORD_pow, e, Int.sub_mul_ediv_right _ _ (Int.ne_of_gt hp)]
    rw [ew, e3, Int.one_mul, Int.mul_sub, ← e, ← WORD_pow, Int.mul_one]
    have e4 : a / 2 ^ k - 2 ^ (256 - k) = (a / 2 ^ k + (WORD - 2 ^ (256 - k))) + WORD * (-1) := by rw [Int.mul_neg_one]; (first | lia | omega)
    rw [e4, Int.add_mul_emod_self_left, Int.emod_eq_of_lt (by (first | lia | omega)) (by (first | lia | omega))]
  · rw [if_neg h]
    have ew : withSign a = a := by unfold withSign; rw [if_neg h]
    rw [ew, Int.zero_mul, Int.mul_zero, Int.add_zero, Int.emod_eq_of_lt hd0 (Int.lt_of_lt_of_le hd1 hle)]
theorem row_sar {a p : Int} (h0 : 0 ≤ a) (h1 : a < WORD) (hp : 0 ≤ p) : wt ((bitsN a 256).drop (if p < 256 then p else 256).toNat ++ List.replicate (if p < 256 then p else 256).toNat ((bitsN a 256).getD 255 0)) = ((withSign a).fdiv (2 ^ (if 256 < p then 256 else p).toNat)).fmod WORD := by
  have e : (if 256 < p then 256 else p) = (if p < 256 then p else 256) := by split <;> split <;> (first | lia | omega)
  rw [e, fmodW]
  exact sar_wt h0 h1 (by split <;> (first | lia | omega))

end MrS
section Mr2S
theorem getD_end (a : Int) (n : Nat) (hn : 0 < n) : (bitsN a n).getD (-1 + ((bitsN a n).length : Int)).toNat 0 = a / 2 ^ (n - 1) % 2 := by
  rw [bitsN_length]
  have e : (-1 + (n : Int)).toNat = n - 1 := by (first | lia | omega)
  rw [e, bitsN_get _ _ _ (by (first | lia | omega))]
theorem ext_small {a : Int} {n : Nat} (hn : 0 < n) (hn2 : n ≤ 256) : extB (bitsN a n) = (if a % 2 ^ n ≥ 2 ^ (n - 1) then (a % 2 ^ n - 2 ^ (n - 1) - 2 ^ (n - 1)) % WORD else a % 2 ^ n) := by
  unfold extB
  rw [getD_end a n hn, wt_append, wt_bitsN, bitsN_length, wt_rep]
  have en : (256 - (n : Int)).toNat = 256 - n := by (first | lia | omega)
  have e : (2 : Int) ^ n * 2 ^ (256 - n) = WORD := by rw [WORD_pow, ← Int.pow_add, Nat.add_sub_cancel' hn2]
  have eh : (2 : Int) ^ n = 2 ^ (n - 1) + 2 ^ (n - 1) := by
    have : n = (n - 1) + 1 := by (first | lia | omega)
    rw [this, Int.pow_succ, Nat.add_sub_cancel]
    (first | lia | omega)
  have hS : (0 : Int) < 2 ^ (n - 1) := Int.pow_pos (by decide)
  have hr0 : 0 ≤ a % 2 ^ n := Int.emod_nonneg _ (by rw [eh]; (first | lia | omega))
  have hr1 : a % 2 ^ n < 2 ^ n := Int.emod_lt_of_pos _ (by rw [eh]; (first | lia | omega))
  have hle : (2 : Int) ^ n ≤ WORD := by rw [WORD_pow]; exact_mod_cast Nat.pow_le_pow_right (n := 2) (by decide) hn2
  have split_ := emod_two_pow_succ a (n - 1)
  rw [Nat.sub_add_cancel hn] at split_
  have hl0 : 0 ≤ a % 2 ^ (n - 1) := Int.emod_nonneg _ (Int.ne_of_gt hS)
  have hl1 : a % 2 ^ (n - 1) < 2 ^ (n - 1) := Int.emod_lt_of_pos _ hS
  rw [en]
  rcases Int.emod_two_eq (a / 2 ^ (n - 1)) with t | t
  · rw [t, Int.zero_mul, Int.add_zero] at split_
    rw [t, if_neg (by (first | lia | omega)), Int.zero_mul, Int.mul_zero, Int.add_zero]
  · rw [t, Int.one_mul] at split_
    rw [t, if_pos (by (first | lia | omega)), Int.one_mul, Int.mul_sub, e, Int.mul_one]
    have e4 : a % 2 ^ n - 2 ^ (n - 1) - 2 ^ (n - 1) = (a % 2 ^ n + (WORD - 2 ^ n)) + WORD * (-1) := by rw [Int.mul_neg_one]; (first | lia | omega)
    rw [e4, Int.add_mul_emod_self_left]
    exact (Int.emod_eq_of_lt (by (first | lia | omega)) (by (first | lia | omega))).symm
theorem ext_whole {a : Int} (h0 : 0 ≤ a) (h1 : a < WORD) : extB (bitsN a 256) = a := by
  unfold extB
  rw [bitsN_length]
  show wt (bitsN a 256 ++ List.replicate 0 _) = a
  rw [List.replicate_zero, List.append_nil, wt_bitsN, ← WORD_pow]
  exact Int.emod_eq_of_lt h0 h1
theorem row_ext {x p : Int} (h0 : 0 ≤ x) (h1 : x < WORD) (hp : 0 ≤ p) : extB (heldB p (bitsN x 256)) = (if p ≥ 31 then x else if x.fmod (1 * 2 ^ (8 * p + 7).toNat + 1 * 2 ^ (8 * p + 7).toNat) ≥ 1 * 2 ^ (8 * p + 7).toNat then (x.fmod (1 * 2 ^ (8 * p + 7).toNat + 1 * 2 ^ (8 * p + 7).toNat) - 1 * 2 ^ (8 * p + 7).toNat - 1 * 2 ^ (8 * p + 7).toNat).fmod WORD else x.fmod (1 * 2 ^ (8 * p + 7).toNat + 1 * 2 ^ (8 * p + 7).toNat)) := by
  unfold heldB
  by_cases h32 : p < 32
  · rw [if_pos h32, bitsN_take _ _ _ (by (first | lia | omega))]
    by_cases h31 : p ≥ 31
    · have e : (8 * p + 8).toNat = 256 := by (first | lia | omega)
      rw [if_pos h31, e, ext_whole h0 h1]
    · rw [if_neg h31, ext_small (by (first | lia | omega)) (by (first | lia | omega))]
      have e1 : (8 * p + 8).toNat - 1 = (8 * p + 7).toNat := by (first | lia | omega)
      have e2 : (8 * p + 8).toNat = (8 * p + 7).toNat + 1 := by (first | lia | omega)
      have e3 : (1 : Int) * 2 ^ (8 * p + 7).toNat + 1 * 2 ^ (8 * p + 7).toNat = 2 ^ (8 * p + 8).toNat := by rw [e2, Int.pow_succ]; (first | lia | omega)
      have pos : (0 : Int) ≤ 2 ^ (8 * p + 8).toNat := Int.pow_nonneg (by decide)
      rw [e1, e3, Int.fmod_eq_emod_of_nonneg _ pos, Int.one_mul, fmodW]
  · rw [if_neg h32, if_pos (by (first | lia | omega)), ext_whole h0 h1]

end Mr2S
section Mr3S
theorem row_sdiv (a b : Int) : (sgnParts a b).1 = sgnQuot a b := by
  have habs : ∀ x, absW x = absI x := fun x => by unfold absW absI; split <;> (first | lia | omega)
  have hpos : (0 : Int) ≤ absI (withSign b) := by unfold absI; split <;> (first | lia | omega)
  unfold sgnParts sgnQuot
  by_cases h : withSign b = 0
  · rw [if_pos h, if_pos h]
  · rw [if_neg h, if_neg h, habs, habs, fmodW, Int.fdiv_eq_ediv_of_nonneg _ hpos]
    by_cases ha : withSign a < 0 <;> by_cases hb : withSign b < 0 <;> simp [ha, hb]
theorem row_smod (a b : Int) : (sgnParts a b).2 = sgnRest a b := by
  have habs : ∀ x, absW x = absI x := fun x => by unfold absW absI; split <;> (first | lia | omega)
  have hpos : (0 : Int) ≤ absI (withSign b) := by unfold absI; split <;> (first | lia | omega)
  unfold sgnParts sgnRest
  by_cases h : withSign b = 0
  · rw [if_pos h, if_pos h]
  · rw [if_neg h, if_neg h, habs, habs, fmodW, Int.fmod_eq_emod_of_nonneg _ hpos]
theorem wt_not (a : Int) : ∀ k, wt ((bitsN a k).map fun x => 1 - x) = 2 ^ k - 1 - a % 2 ^ k
  | 0 => by simp [bitsN, wt_nil, Int.emod_one]
  | k + 1 => by
    rw [bitsN_succ, List.map_append, List.map_cons, List.map_nil, wt_snoc, wt_not a k, List.length_map, bitsN_length, emod_two_pow_succ, Int.pow_succ, Int.sub_mul]
    (first | lia | omega)
theorem row_not {a : Int} (h0 : 0 ≤ a) (h1 : a < WORD) : wt ((bitsN a 256).map fun x => 1 - x) = WORD - 1 - a := by
  rw [wt_not, ← WORD_pow, Int.emod_eq_of_lt h0 h1]
theorem bit_and (x y k : Nat) : (x &&& y) / 2 ^ k % 2 = (x / 2 ^ k % 2) * (y / 2 ^ k % 2) := by
  have h := Nat.testBit_and x y k
  simp only [Nat.testBit_eq_decide_div_mod_eq] at h
  have a1 : x / 2 ^ k % 2 < 2 := Nat.mod_lt _ (by decide)
  have a2 : y / 2 ^ k % 2 < 2 := Nat.mod_lt _ (by decide)
  have a3 : (x &&& y) / 2 ^ k % 2 < 2 := Nat.mod_lt _ (by decide)
  generalize x / 2 ^ k % 2 = u at *
  generalize y / 2 ^ k % 2 = v at *
  generalize (x &&& y) / 2 ^ k % 2 = z at *
  have b1 : u = 0 ∨ u = 1 := by (first | lia | omega)
  have b2 : v = 0 ∨ v = 1 := by (first | lia | omega)
  have b3 : z = 0 ∨ z = 1 := by (first | lia | omega)
  rcases b1 with rfl | rfl <;> rcases b2 with rfl | rfl <;> rcases b3 with rfl | rfl <;> simp at h ⊢
theorem zip_snoc {α β : Type} (xs : List α) (ys : List β) (a : α) (b : β) (h : xs.length = ys.length) : (xs ++ [a]).zip (ys ++ [b]) = xs.zip ys ++ [(a, b)] := by
  rw [List.zip_append h]; rfl
theorem wt_and (x y : Nat) : ∀ k, wt (((bitsN x k).zip (bitsN y k)).map fun p => p.1 * p.2) = ((x &&& y : Nat) : Int) % 2 ^ k
  | 0 => by simp [bitsN, wt_nil, Int.emod_one]
  | k + 1 => by
    rw [bitsN_succ, bitsN_succ, zip_snoc _ _ _ _ (by rw [bitsN_length, bitsN_length]), List.map_append, List.map_cons, List.map_nil, wt_snoc, wt_and x y k, emod_two_pow_succ, List.length_map, List.length_zip, bitsN_length, bitsN_length, Nat.min_self]
    have e : ((x &&& y : Nat) : Int) / 2 ^ k % 2 = (x : Int) / 2 ^ k % 2 * ((y : Int) / 2 ^ k % 2) := by exact_mod_cast bit_and x y k
    rw [e]
theorem row_and {a b : Int} (ha0 : 0 ≤ a) (ha1 : a < WORD) (hb0 : 0 ≤ b) : wt (((bitsN a 256).zip (bitsN b 256)).map fun p => p.1 * p.2) = Builtin.bitAnd a b := by
  obtain ⟨x, rfl⟩ := Int.eq_ofNat_of_zero_le ha0
  obtain ⟨y, rfl⟩ := Int.eq_ofNat_of_zero_le hb0
  rw [wt_and, ← WORD_pow]
  have e : Builtin.bitAnd (x : Int) (y : Int) = ((x &&& y : Nat) : Int) := by unfold Builtin.bitAnd; simp
  rw [e]
  refine Int.emod_eq_of_lt (Int.natCast_nonneg _) (Int.lt_of_le_of_lt ?_ ha1)
  exact_mod_cast Nat.and_le_left

end Mr3S
section Mr4S
theorem wt_or (a b : Int) : ∀ k, wt (((bitsN a k).zip (bitsN b k)).map fun p => p.1 + p.2 - p.1 * p.2) = a % 2 ^ k + b % 2 ^ k - wt (((bitsN a k).zip (bitsN b k)).map fun p => p.1 * p.2)
  | 0 => by simp [bitsN, wt_nil, Int.emod_one]
  | k + 1 => by
    rw [bitsN_succ, bitsN_succ, zip_snoc _ _ _ _ (by rw [bitsN_length, bitsN_length]), List.map_append, List.map_cons, List.map_nil, wt_snoc, wt_or a b k, List.map_append, List.map_cons, List.map_nil, wt_snoc, emod_two_pow_succ a, emod_two_pow_succ b, List.length_map, List.length_map, List.length_zip, bitsN_length, bitsN_length, Nat.min_self]
    (try dsimp only)
    rw [Int.sub_mul, Int.add_mul]
    (first | lia | omega)
theorem wt_xor (a b : Int) : ∀ k, wt (((bitsN a k).zip (bitsN b k)).map fun p => (p.1 + p.2).fmod 2) = a % 2 ^ k + b % 2 ^ k - 2 * wt (((bitsN a k).zip (bitsN b k)).map fun p => p.1 * p.2)
  | 0 => by simp [bitsN, wt_nil, Int.emod_one]
  | k + 1 => by
    rw [bitsN_succ, bitsN_succ, zip_snoc _ _ _ _ (by rw [bitsN_length, bitsN_length]), List.map_append, List.map_cons, List.map_nil, wt_snoc, wt_xor a b k, List.map_append, List.map_cons, List.map_nil, wt_snoc, emod_two_pow_succ a, emod_two_pow_succ b, List.length_map, List.length_map, List.length_zip, bitsN_length, bitsN_length, Nat.min_self]
    have e : (a / 2 ^ k % 2 + b / 2 ^ k % 2).fmod 2 = a / 2 ^ k % 2 + b / 2 ^ k % 2 - 2 * (a / 2 ^ k % 2 * (b / 2 ^ k % 2)) := by
      rcases Int.emod_two_eq (a / 2 ^ k) with t | t <;> rcases Int.emod_two_eq (b / 2 ^ k) with u | u <;> rw [t, u] <;> decide
    (try dsimp only)
    rw [e, Int.sub_mul, Int.add_mul, Int.mul_assoc 2, Int.mul_add]
    (first | lia | omega)
theorem bitXor_or (x y : Int) : Builtin.bitOr x y = x + y - Builtin.bitAnd x y := by
  have h := bitXor_and x y
  unfold Builtin.bitXor at h
  (first | lia | omega)
theorem row_or {a b : Int} (ha0 : 0 ≤ a) (ha1 : a < WORD) (hb0 : 0 ≤ b) (hb1 : b < WORD) : wt (((bitsN a 256).zip (bitsN b 256)).map fun p => p.1 + p.2 - p.1 * p.2) = Builtin.bitOr a b := by
  rw [wt_or, row_and ha0 ha1 hb0, bitXor_or, ← WORD_pow, Int.emod_eq_of_lt ha0 ha1, Int.emod_eq_of_lt hb0 hb1]
theorem row_xor {a b : Int} (ha0 : 0 ≤ a) (ha1 : a < WORD) (hb0 : 0 ≤ b) (hb1 : b < WORD) : wt (((bitsN a 256).zip (bitsN b 256)).map fun p => (p.1 + p.2).fmod 2) = Builtin.bitXor a b := by
  rw [wt_xor, row_and ha0 ha1 hb0, bitXor_and, ← WORD_pow, Int.emod_eq_of_lt ha0 ha1, Int.emod_eq_of_lt hb0 hb1]

end Mr4S
section Mr5S
noncomputable def lexLt : List Int → List Int → Bool
  | x :: xs, y :: ys => if x = y then lexLt xs ys else decide (x < y)
  | [], _ :: _ => true
  | _, [] => false
theorem lex_bits (a b : Int) : ∀ k, lexLt (bitsN a k).reverse (bitsN b k).reverse = decide (a % 2 ^ k < b % 2 ^ k)
  | 0 => by simp [bitsN, lexLt, Int.emod_one]
  | k + 1 => by
    rw [bitsN_succ, bitsN_succ, List.reverse_append, List.reverse_append]
    show lexLt (a / 2 ^ k % 2 :: (bitsN a k).reverse) (b / 2 ^ k % 2 :: (bitsN b k).reverse) = _
    rw [lexLt, lex_bits a b k, emod_two_pow_succ a, emod_two_pow_succ b]
    have hS : (0 : Int) < 2 ^ k := Int.pow_pos (by decide)
    have a0 : 0 ≤ a % 2 ^ k := Int.emod_nonneg _ (Int.ne_of_gt hS)
    have a1 : a % 2 ^ k < 2 ^ k := Int.emod_lt_of_pos _ hS
    have b0 : 0 ≤ b % 2 ^ k := Int.emod_nonneg _ (Int.ne_of_gt hS)
    have b1 : b % 2 ^ k < 2 ^ k := Int.emod_lt_of_pos _ hS
    rcases Int.emod_two_eq (a / 2 ^ k) with t | t <;> rcases Int.emod_two_eq (b / 2 ^ k) with u | u <;> rw [t, u]
    · simp
    · rw [if_neg (by decide), Int.zero_mul, Int.one_mul]
      rw [decide_eq_true (by decide : (0 : Int) < 1)]
      exact (decide_eq_true (by (first | lia | omega))).symm
    · rw [if_neg (by decide), Int.zero_mul, Int.one_mul]
      rw [decide_eq_false (by decide : ¬ (1 : Int) < 0)]
      exact (decide_eq_false (by (first | lia | omega))).symm
    · rw [if_pos rfl]
      congr 1
      exact propext ⟨fun h => by (first | lia | omega), fun h => by (first | lia | omega)⟩
theorem row_lt {a b : Int} (ha0 : 0 ≤ a) (ha1 : a < WORD) (hb0 : 0 ≤ b) (hb1 : b < WORD) : lexLt (bitsN a 256).reverse (bitsN b 256).reverse = decide (a < b) := by
  rw [lex_bits, ← WORD_pow, Int.emod_eq_of_lt ha0 ha1, Int.emod_eq_of_lt hb0 hb1]
theorem bitsN_inj {a b : Int} (ha0 : 0 ≤ a) (ha1 : a < WORD) (hb0 : 0 ≤ b) (hb1 : b < WORD) : bitsN a 256 = bitsN b 256 ↔ a = b := by
  refine ⟨fun h => ?_, fun h => by rw [h]⟩
  have e := congrArg wt h
  rwa [wt_bitsN, wt_bitsN, ← WORD_pow, Int.emod_eq_of_lt ha0 ha1, Int.emod_eq_of_lt hb0 hb1] at e
theorem wt_pos {ns : List Int} (hb : Bits ns) : 1 ∈ ns ↔ wt ns ≠ 0 := by
  obtain ⟨r, rfl⟩ : ∃ r, ns = r.reverse := ⟨ns.reverse, by simp⟩
  have key : ∀ r : List Int, Bits r.reverse → 0 ≤ wt r.reverse ∧ (1 ∈ r.reverse ↔ wt r.reverse ≠ 0) := by
    intro r
    induction r with
    | nil => intro _; simp [wt_nil]
    | cons x r ih =>
      intro hb
      rw [List.reverse_cons] at hb ⊢
      obtain ⟨i1, i2⟩ := ih fun b hm => hb b (List.mem_append_left _ hm)
      have hx := hb x (List.mem_append_right _ (List.mem_cons_self ..))
      have hS : (0 : Int) < 2 ^ r.reverse.length := Int.pow_pos (by decide)
      rw [wt_snoc, List.mem_append, List.mem_singleton, i2]
      have hx' : x = 0 ∨ x = 1 := by (first | lia | omega)
      rcases hx' with rfl | rfl
      · rw [Int.zero_mul, Int.add_zero]; exact ⟨i1, by simp⟩
      · rw [Int.one_mul]; exact ⟨by (first | lia | omega), by constructor <;> intro _ <;> first | (first | lia | omega) | simp⟩
  exact (key r hb).2
theorem row_iszero {a : Int} (h0 : 0 ≤ a) (h1 : a < WORD) : 1 ∈ bitsN a 256 ↔ a ≠ 0 := by
  rw [wt_pos (bitsN_Bits _ _), wt_bitsN, ← WORD_pow, Int.emod_eq_of_lt h0 h1]

end Mr5S
section Mr6S
theorem octets_of {b : Int} {n : Nat} (h0 : 0 ≤ b) (hlt : b < 256 ^ n) (hge : n = 0 ∨ 256 ^ (n - 1) ≤ b) : (50 * (n : Int)) = 50 * (((Builtin.Int.intBits b : Int) + 7).fdiv 8) := by
  obtain ⟨x, rfl⟩ := Int.eq_ofNat_of_zero_le h0
  have e256 : ∀ k : Nat, (256 : Nat) ^ k = 2 ^ (8 * k) := fun k => by rw [Nat.pow_mul]
  have up : Builtin.Int.intBits (x : Int) ≤ 8 * n := by
    rw [intBits_le_iff, Int.natAbs_natCast, ← e256]
    exact_mod_cast hlt
  have lo : n = 0 ∨ 8 * (n - 1) < Builtin.Int.intBits (x : Int) := by
    rcases hge with h | h
    · exact .inl h
    · refine .inr (Nat.lt_of_not_le fun hle => ?_)
      rw [intBits_le_iff, Int.natAbs_natCast, ← e256] at hle
      have h' : 256 ^ (n - 1) ≤ x := by exact_mod_cast h
      (first | lia | omega)
  rw [Int.fdiv_eq_ediv_of_nonneg _ (by decide)]
  generalize Builtin.Int.intBits (x : Int) = z at *
  (first | lia | omega)
theorem seq_cut {M : Model} {A : Around} {E : Value → Shared → Prop} {s : Shared} {st : Stmt} {rest : List Stmt} {env : Env} {Q : Flow → Shared → Prop} {P : Shared → Prop} (h : wpAny M A (exec st env) (fun f s' => f = .next ∧ P s') E s) (hr : ∀ s', P s' → wpAny M A (execs rest env) Q E s') : wpAny M A (execs (st :: rest) env) Q E s := by
  refine wpAny_execs_cons (wpAny_mono h (fun f s' ⟨e, hp⟩ => ?_) fun _ _ z => z)
  subst e
  exact hr s' hp

end Mr6S
section LltS
noncomputable def firstLt (e lt : Nat → Bool) : List Nat → Bool
  | [] => false
  | j :: r => if e j then firstLt e lt r else lt j
noncomputable def LtGives (x y : Value) (b : Bool) : Prop := ∀ (prog : Program) (w : World) (A : Around) (E : Value → Shared → Prop) (Q : Value → Shared → Prop) (s : Shared), Q (.bool b) s → wpAny (model prog w) A (richCompare .Lt x y) Q E s
open PySem.MeetsSeq PySem.MeetsSeq3 in
theorem lt_loop (l b : Addr) (items items2 : Array Value) (n n2 : Nat) (hsz : items.size = items2.size) (e lt : Nat → Bool)
    (he : ∀ j (h1 : j < items.size) (h2 : j < items2.size), EqGives items[j] items2[j] (e j)) (hlt : ∀ j (h1 : j < items.size) (h2 : j < items2.size), LtGives items[j] items2[j] (lt j)) (k : Nat) :
    ∀ i : Nat, items.size - i = k → Meets (Builtin.«list.__eq__.loop» ⟨[.ref l, .ref b, rawInt i, rawInt 0], []⟩)
      (fun _ R s => s.heap.get? l = some { cls := .type "list", dict := none, data := .seq items n, slots := #[] } ∧ s.heap.get? b = some { cls := .type "list", dict := none, data := .seq items2 n2, slots := #[] } ∧
        R (.ok (.ret (.bool (firstLt e lt ((List.range items.size).drop i))))) s) := by
  induction k with
  | zero =>
    intro i hk prog w A R s h
    obtain ⟨hp, g, d, tk, os⟩ := s; obtain ⟨hl, hb, h⟩ := h
    wp_walk using wpAny_loadPart' hl, wpAny_loadPart' hb
    have hi1 : items[((i : Nat) : Int).toNat]? = none := by simp; (first | lia | omega)
    have hi2 : items2[((i : Nat) : Int).toNat]? = none := by simp; (first | lia | omega)
    have hd : (List.range items.size).drop i = [] := by simp; (first | lia | omega)
    rw [hd] at h
    rw [hi1, hi2]
    wp_walk using wpAny_loadPart' hl, wpAny_loadPart' hb
    show R (.ok (.ret (.bool (decide (items.size < items2.size))))) _
    rw [hsz]
    simpa [firstLt] using h
  | succ k ih =>
    intro i hk prog w A R s h
    obtain ⟨hp, g, d, tk, os⟩ := s; obtain ⟨hl, hb, h⟩ := h
    wp_walk using wpAny_loadPart' hl, wpAny_loadPart' hb
    have hlt1 : i < items.size := by (first | lia | omega)
    have hlt2 : i < items2.size := by (first | lia | omega)
    have hi1 : items[((i : Nat) : Int).toNat]? = some items[i] := by simp [hlt1]
    have hi2 : items2[((i : Nat) : Int).toNat]? = some items2[i] := by simp [hlt2]
    have hd : (List.range items.size).drop i = i :: (List.range items.size).drop (i + 1) := by simp [List.drop_eq_getElem_cons, hlt1]
    have hc : ((i : Int) + 1) = ((i + 1 : Nat) : Int) := by push_cast; rfl
    rw [hd, firstLt] at h
    rw [hi1, hi2]
    refine wpAny_bind (he i hlt1 hlt2 prog w _ _ _ _ ?_)
    cases hb' : e i with
    | true =>
      rw [hb'] at h
      wp_walk
      rw [hc]
      exact ⟨plainId_quiet plain_eq_loop _, codeAny_builtin entry_eq_loop (by
        rw [Around.under_plainId plain_eq_loop _]
        exact ih (i + 1) (by (first | lia | omega)) prog w A R _ ⟨hl, hb, by simpa using h⟩)⟩
    | false =>
      rw [hb'] at h
      wp_walk using wpAny_loadPart' hl, wpAny_loadPart' hb
      rw [hi1, hi2]
      refine wpAny_bind (hlt i hlt1 hlt2 prog w _ _ _ _ ?_)
      wp_walk
      try simpa using h
theorem LtGives.int (a b : Int) (t u : Tok) : LtGives (.int a t) (.int b u) (decide (a < b)) := fun _ _ _ _ _ _ h => wpAny_lt_int h
open PySem.MeetsSeq PySem.MeetsSeq3 in
theorem list_lt (l b : Addr) (items items2 : Array Value) (n n2 : Nat) (hsz : items.size = items2.size) (e lt : Nat → Bool)
    (he : ∀ j (h1 : j < items.size) (h2 : j < items2.size), EqGives items[j] items2[j] (e j)) (hlt : ∀ j (h1 : j < items.size) (h2 : j < items2.size), LtGives items[j] items2[j] (lt j)) :
    Meets (Builtin.«list.__lt__» ⟨[.ref l, .ref b], []⟩)
      (fun _ R s => s.heap.get? l = some { cls := .type "list", dict := none, data := .seq items n, slots := #[] } ∧ s.heap.get? b = some { cls := .type "list", dict := none, data := .seq items2 n2, slots := #[] } ∧
        R (.ok (.ret (.bool (firstLt e lt (List.range items.size))))) s) := by
  intro prog w A R s h
  obtain ⟨hp, g, d, tk, os⟩ := s; obtain ⟨hl, hb, h⟩ := h
  have f3 := AutoSeq1.sub_list_list
  wp_walk using wpAny_loadPart' hl, wpAny_loadPart' hb
  exact ⟨plainId_quiet plain_eq_loop _, codeAny_builtin entry_eq_loop (by
    rw [Around.under_plainId plain_eq_loop _]
    exact lt_loop l b items items2 n n2 hsz e lt he hlt _ 0 rfl prog w A R _ ⟨hl, hb, by simpa using h⟩)⟩

end LltS
section LgtS
noncomputable def GtGives (x y : Value) (b : Bool) : Prop := ∀ (prog : Program) (w : World) (A : Around) (E : Value → Shared → Prop) (Q : Value → Shared → Prop) (s : Shared), Q (.bool b) s → wpAny (model prog w) A (richCompare .Gt x y) Q E s
open PySem.MeetsSeq PySem.MeetsSeq3 in
theorem gt_loop (l b : Addr) (items items2 : Array Value) (n n2 : Nat) (hsz : items.size = items2.size) (e lt : Nat → Bool)
    (he : ∀ j (h1 : j < items.size) (h2 : j < items2.size), EqGives items[j] items2[j] (e j)) (hlt : ∀ j (h1 : j < items.size) (h2 : j < items2.size), GtGives items[j] items2[j] (lt j)) (k : Nat) :
    ∀ i : Nat, items.size - i = k → Meets (Builtin.«list.__eq__.loop» ⟨[.ref l, .ref b, rawInt i, rawInt 4], []⟩)
      (fun _ R s => s.heap.get? l = some { cls := .type "list", dict := none, data := .seq items n, slots := #[] } ∧ s.heap.get? b = some { cls := .type "list", dict := none, data := .seq items2 n2, slots := #[] } ∧
        R (.ok (.ret (.bool (firstLt e lt ((List.range items.size).drop i))))) s) := by
  induction k with
  | zero =>
    intro i hk prog w A R s h
    obtain ⟨hp, g, d, tk, os⟩ := s; obtain ⟨hl, hb, h⟩ := h
    wp_walk using wpAny_loadPart' hl, wpAny_loadPart' hb
    have hi1 : items[((i : Nat) : Int).toNat]? = none := by simp; (first | lia | omega)
    have hi2 : items2[((i : Nat) : Int).toNat]? = none := by simp; (first | lia | omega)
    have hd : (List.range items.size).drop i = [] := by simp; (first | lia | omega)
    rw [hd] at h
    rw [hi1, hi2]
    wp_walk using wpAny_loadPart' hl, wpAny_loadPart' hb
    show R (.ok (.ret (.bool (decide (items.size > items2.size))))) _
    rw [hsz]
    simpa [firstLt] using h
  | succ k ih =>
    intro i hk prog w A R s h
    obtain ⟨hp, g, d, tk, os⟩ := s; obtain ⟨hl, hb, h⟩ := h
    wp_walk using wpAny_loadPart' hl, wpAny_loadPart' hb
    have hlt1 : i < items.size := by (first | lia | omega)
    have hlt2 : i < items2.size := by (first | lia | omega)
    have hi1 : items[((i : Nat) : Int).toNat]? = some items[i] := by simp [hlt1]
    have hi2 : items2[((i : Nat) : Int).toNat]? = some items2[i] := by simp [hlt2]
    have hd : (List.range items.size).drop i = i :: (List.range items.size).drop (i + 1) := by simp [List.drop_eq_getElem_cons, hlt1]
    have hc : ((i : Int) + 1) = ((i + 1 : Nat) : Int) := by push_cast; rfl
    rw [hd, firstLt] at h
    rw [hi1, hi2]
    refine wpAny_bind (he i hlt1 hlt2 prog w _ _ _ _ ?_)
    cases hb' : e i with
    | true =>
      rw [hb'] at h
      wp_walk
      rw [hc]
      exact ⟨plainId_quiet plain_eq_loop _, codeAny_builtin entry_eq_loop (by
        rw [Around.under_plainId plain_eq_loop _]
        exact ih (i + 1) (by (first | lia | omega)) prog w A R _ ⟨hl, hb, by simpa using h⟩)⟩
    | false =>
      rw [hb'] at h
      wp_walk using wpAny_loadPart' hl, wpAny_loadPart' hb
      rw [hi1, hi2]
      refine wpAny_bind (hlt i hlt1 hlt2 prog w _ _ _ _ ?_)
      wp_walk
      try simpa using h
theorem GtGives.int (a b : Int) (t u : Tok) : GtGives (.int a t) (.int b u) (decide (a > b)) := fun _ _ _ _ _ _ h => PySem.P.gt_int h
open PySem.MeetsSeq PySem.MeetsSeq3 in
theorem list_gt (l b : Addr) (items items2 : Array Value) (n n2 : Nat) (hsz : items.size = items2.size) (e lt : Nat → Bool)
    (he : ∀ j (h1 : j < items.size) (h2 : j < items2.size), EqGives items[j] items2[j] (e j)) (hlt : ∀ j (h1 : j < items.size) (h2 : j < items2.size), GtGives items[j] items2[j] (lt j)) :
    Meets (Builtin.«list.__gt__» ⟨[.ref l, .ref b], []⟩)
      (fun _ R s => s.heap.get? l = some { cls := .type "list", dict := none, data := .seq items n, slots := #[] } ∧ s.heap.get? b = some { cls := .type "list", dict := none, data := .seq items2 n2, slots := #[] } ∧
        R (.ok (.ret (.bool (firstLt e lt (List.range items.size))))) s) := by
  intro prog w A R s h
  obtain ⟨hp, g, d, tk, os⟩ := s; obtain ⟨hl, hb, h⟩ := h
  have f3 := AutoSeq1.sub_list_list
  wp_walk using wpAny_loadPart' hl, wpAny_loadPart' hb
  exact ⟨plainId_quiet plain_eq_loop _, codeAny_builtin entry_eq_loop (by
    rw [Around.under_plainId plain_eq_loop _]
    exact gt_loop l b items items2 n n2 hsz e lt he hlt _ 0 rfl prog w A R _ ⟨hl, hb, by simpa using h⟩)⟩

end LgtS
section LcmS
section
variable {prog : Program} {w : World} {A : Around} {E : Value → Shared → Prop} {s : Shared}
open PySem.MeetsSeq PySem.MeetsSeq3
theorem cmp_list_lt {l b : Addr} {items items2 : Array Value} {n n2 : Nat} {Q : Value → Shared → Prop} (hu : A.units < cLine) (hl : s.heap.get? l = some { cls := .type "list", dict := none, data := .seq items n, slots := #[] }) (hb : s.heap.get? b = some { cls := .type "list", dict := none, data := .seq items2 n2, slots := #[] }) (hsz : items.size = items2.size) (e lt : Nat → Bool)
    (he : ∀ j (h1 : j < items.size) (h2 : j < items2.size), EqGives items[j] items2[j] (e j)) (hlt : ∀ j (h1 : j < items.size) (h2 : j < items2.size), LtGives items[j] items2[j] (lt j)) (h : Q (.bool (firstLt e lt (List.range items.size))) s) : wpAny (model prog w) A (compareOp .Lt (.ref l) (.ref b)) Q E s :=
  richCompare_meets_room (op := .Lt) ⟨_, hl, rfl⟩ ⟨_, hb, rfl⟩ F.slot_list_lt F.entry_list_lt (F.args_list_lt_2 _ _) (list_lt l b items items2 n n2 hsz e lt he hlt) ⟨hl, hb, show Value.bool (firstLt e lt (List.range items.size)) ≠ Value.notImplemented ∧ Q (.bool (firstLt e lt (List.range items.size))) s from ⟨(fun x => nomatch x), h⟩⟩ hu
theorem cmp_list_gt {l b : Addr} {items items2 : Array Value} {n n2 : Nat} {Q : Value → Shared → Prop} (hu : A.units < cLine) (hl : s.heap.get? l = some { cls := .type "list", dict := none, data := .seq items n, slots := #[] }) (hb : s.heap.get? b = some { cls := .type "list", dict := none, data := .seq items2 n2, slots := #[] }) (hsz : items.size = items2.size) (e lt : Nat → Bool)
    (he : ∀ j (h1 : j < items.size) (h2 : j < items2.size), EqGives items[j] items2[j] (e j)) (hlt : ∀ j (h1 : j < items.size) (h2 : j < items2.size), GtGives items[j] items2[j] (lt j)) (h : Q (.bool (firstLt e lt (List.range items.size))) s) : wpAny (model prog w) A (compareOp .Gt (.ref l) (.ref b)) Q E s :=
  richCompare_meets_room (op := .Gt) ⟨_, hl, rfl⟩ ⟨_, hb, rfl⟩ F.slot_list_gt F.entry_list_gt (F.args_list_gt_2 _ _) (list_gt l b items items2 n n2 hsz e lt he hlt) ⟨hl, hb, show Value.bool (firstLt e lt (List.range items.size)) ≠ Value.notImplemented ∧ Q (.bool (firstLt e lt (List.range items.size))) s from ⟨(fun x => nomatch x), h⟩⟩ hu
end

end LcmS
section LexS
theorem firstLt_lex {xs ys : List Int} (h : xs.length = ys.length) : ∀ (k i : Nat), xs.length - i = k → firstLt (fun j => xs.getD j 0 == ys.getD j 0) (fun j => decide (xs.getD j 0 < ys.getD j 0)) ((List.range xs.length).drop i) = lexLt (xs.drop i) (ys.drop i)
  | 0, i, hk => by
    rw [List.drop_eq_nil_of_le (by rw [List.length_range]; (first | lia | omega)), List.drop_eq_nil_of_le (as := xs) (by (first | lia | omega)), List.drop_eq_nil_of_le (as := ys) (by (first | lia | omega))]
    rfl
  | k + 1, i, hk => by
    have hx : i < xs.length := by (first | lia | omega)
    have hy : i < ys.length := by (first | lia | omega)
    rw [List.drop_eq_getElem_cons (l := List.range xs.length) (by rw [List.length_range]; exact hx), List.drop_eq_getElem_cons hx, List.drop_eq_getElem_cons hy, List.getElem_range, firstLt, lexLt, firstLt_lex h k (i + 1) (by (first | lia | omega))]
    have e1 : xs.getD i 0 = xs[i] := by simp [List.getD, hx]
    have e2 : ys.getD i 0 = ys[i] := by simp [List.getD, hy]
    rw [e1, e2]
    by_cases q : xs[i] = ys[i]
    · rw [if_pos (beq_iff_eq.mpr q), if_pos q]
    · rw [if_neg (by simpa using q), if_neg q]

end LexS
section CptS
section
variable {prog : Program} {w : World} {A : Around} {E : Value → Shared → Prop} {env : Env}
theorem compKT {elt iter : Expr} {elts : List Expr} {x1} {tp : Pos} {scope : Scope} {cl : List (Str × Addr)} {pos : Pos} {s₂ : Shared} {I ax : Addr} {items : Array Value} {Q : Value → Shared → Prop}
    (hh : A.handled = none) (hne : ax ≠ I) (hsz : items.size ≤ sizeLine) (G : Nat → Value → List (Addr × Obj) → Prop) (M : Nat → (Str → Option Value) → Prop)
    (hG : ∀ i y a b, (∀ p ∈ a, p ∈ b) → G i y a → G i y b)
    (hcell : ∀ y ∈ scope.names, y.2 ≠ .cell) (hkind : scope.kind = .function) (hst : s₂.heap.IsListIter I ax 0 ∧ s₂.heap.IsList ax items) (href : ∀ (i : Nat) (v : Value), items[i]? = some v → ∃ t, v = .ref t)
    (hasg : ∀ i v C h tk m (Q' : Unit → Shared → Prop) E', items[i]? = some v → Fr (hideAll s₂.heap [I]) C h m →
       (∀ h' tk' m', Fr (hideAll s₂.heap [I]) C h' m' → M i m' → (∀ b o, b ≠ C → h.get? b = some o → h'.get? b = some o) → Q' () { s₂ with heap := h', toks := tk' }) →
       wpAny (model prog w) A (assign (.Tuple elts x1 tp) (compEnvC scope cl C env) v) Q' E' { s₂ with heap := h, toks := tk })
    (helt : ∀ i C D (ys : List Value) ep oI ac h tk m E', i < items.size → M i m → Fr (hideAll s₂.heap [I]) C h m → News (hideAll s₂.heap [I]) C h ((D, listOf ys.toArray ep) :: (I, oI) :: ac) → (∀ p ∈ ac, p.1 ≠ D ∧ p.1 ≠ I) → D ≠ I →
      wpAny (model prog w) A (eval elt (compEnvC scope cl C env)) (fun y s₃ => ∃ h' tk' m' ac', s₃ = { s₂ with heap := h', toks := tk' } ∧ Fr (hideAll s₂.heap [I]) C h' m' ∧ News (hideAll s₂.heap [I]) C h' ((D, listOf ys.toArray ep) :: (I, oI) :: ac') ∧ (∀ p ∈ ac', p.1 ≠ D ∧ p.1 ≠ I) ∧ (∀ p ∈ ac, p ∈ ac') ∧ G i y ac') E' { s₂ with heap := h, toks := tk })
    (done : ∀ D h' tk (ys : List Value) ep ac, s₂.heap.get? D = none → h'.get? D = some (listOf ys.toArray ep) → ys.length = items.size → (∀ i, i < items.size → ∃ y, ys[i]? = some y ∧ G i y ac) → (∀ p ∈ ac, h'.get? p.1 = some p.2 ∧ s₂.heap.get? p.1 = none ∧ p.1 ≠ D) →
      (∀ b o, b ≠ I → s₂.heap.get? b = some o → h'.get? b = some o) → Q (.ref D) { s₂ with heap := h', toks := tk }) :
    wpAny (model prog w) A (newList []) (fun acc s₃ => wpAny (model prog w) A (newFunctionEnv scope env.globals cl [] env.qual none .none (some env)) (fun cenv s₄ =>
      codeAny (model prog w) A (.compStart (.ListComp elt [⟨.Tuple elts x1 tp, iter, [], 0⟩] scope pos) 0 (.ref I) acc { cenv with scope := relabel scope env }) (compPost (model prog w) A E none Q acc cenv.locals) s₄) E s₃) E s₂ := by
  have W := Walks.list (prog := prog) (w := w) hh I ax hne items
  obtain ⟨Iob, hIob, _⟩ := hst.1
  obtain ⟨Aob, hAob, _⟩ := hst.2
  refine wpAny_newObj_type (wpAny_newFunctionEnv hcell (by intro y hy; simp at hy) (fun h₁ hns₁ hsb₁ => ?_) hkind)
  dsimp only at hns₁ hsb₁ ⊢
  generalize hH2 : s₂.heap.push { cls := .type "list", dict := none, data := .seq ([] : List Value).toArray } = H2 at hns₁ hsb₁ ⊢
  have hC : H2.objs.size = s₂.heap.objs.size + 1 := by rw [← hH2, Heap.size_push]
  have hDC : s₂.heap.objs.size ≠ H2.objs.size := by rw [hC]; exact Nat.ne_of_lt (Nat.lt_succ_self _)
  have below : ∀ b, b < s₂.heap.objs.size → b ≠ H2.objs.size ∧ b ≠ s₂.heap.objs.size := fun b hb => ⟨by rw [hC]; exact Nat.ne_of_lt (Nat.lt_succ_of_lt hb), Nat.ne_of_lt hb⟩
  have old : ∀ b o, s₂.heap.get? b = some o → h₁.get? b = some o := fun b o e => hsb₁.extBut b o (below b (Heap.lt_size e)).1 (Heap.get?_push_of_some _ (hH2 ▸ Heap.get?_push_of_some _ e))
  have hacc : h₁.get? s₂.heap.objs.size = some (listOf ([] : List Value).toArray 0) := hsb₁.extBut _ _ hDC (Heap.get?_push_of_some _ (hH2 ▸ Heap.get?_push_size _ rfl))
  have hst₁ := W.frame _ _ _ hst fun b _ o e => old b o e
  have fresh : ∀ a, s₂.heap.objs.size ≤ a → s₂.heap.get? a = none := fun a ha => by
    cases e : s₂.heap.get? a with
    | none => rfl
    | some o' => exact absurd (Heap.lt_size e) (Nat.not_lt.mpr ha)
  have hIlt := Heap.lt_size hIob
  have hAlt := Heap.lt_size hAob
  have hfp : ∀ b ∈ [I, ax], b < s₂.heap.objs.size := fun b hb => by
    rcases List.mem_cons.mp hb with rfl | hb
    · exact hIlt
    · rw [List.mem_singleton.mp hb]; exact hAlt
  have hfw : ∀ b ∈ [I, ax], b ∉ [I] → ∃ o, s₂.heap.get? b = some o := fun b hb hb' => by
    rcases List.mem_cons.mp hb with rfl | hb
    · exact absurd (List.mem_singleton.mpr rfl) hb'
    · rw [List.mem_singleton.mp hb]; exact ⟨_, hAob⟩
  generalize hDd : s₂.heap.objs.size = D at hC hDC below hacc fresh hfp hns₁ hsb₁ hIlt hAlt ⊢
  generalize hCd : H2.objs.size = C at hC hDC below hns₁ hsb₁ ⊢
  have gnone : (hideAll s₂.heap [I]).get? D = none := by
    cases e : (hideAll s₂.heap [I]).get? D with
    | none => rfl
    | some o => have := (hide_keep e).1; rw [fresh D (Nat.le_refl _)] at this; cases this
  have hCf : C ∉ [I, ax] := fun hm => by have h9 := hfp _ hm; rw [hC] at h9; exact absurd (Nat.lt_of_succ_lt h9) (Nat.lt_irrefl _)
  have hDf : D ∉ [I, ax] := fun hm => absurd (hfp _ hm) (Nat.lt_irrefl _)
  have hCw : C ∉ [I] := fun h => hCf (W.sub _ h)
  have hDw : D ∉ [I] := fun q => hDf (W.sub _ q)
  have hDI : D ≠ I := fun q => hDw (List.mem_singleton.mpr q)
  have hCI : C ≠ I := fun q => hCw (List.mem_singleton.mpr q)
  have F₁ : Fr (hideAll s₂.heap [I]) C h₁ (fun _ => none) := ⟨hns₁, fun b o e => old b o (hide_keep e).1, by rw [hideAll_size]; (first | lia | omega)⟩
  have loop : ∀ s₃ : Shared, s₃ = { s₂ with heap := h₁, toks := s₂.toks + ([] : List (Str × Value)).length } →
      codeAny (model prog w) A (.compLoop (.ListComp elt [⟨.Tuple elts x1 tp, iter, [], 0⟩] scope pos) 0 (.ref I) (.ref D) (compEnvC scope cl C env)) (compPost (model prog w) A E none Q (.ref D) C) s₃ := by
    rintro s₃ rfl
    refine LCp.codeAny_compLoop_pair (fun k s' => ∃ (h : Heap) (tk : Nat) (m : Str → Option Value) (i : Nat) (ys : List Value) (ep : Nat) (ac : List (Addr × Obj)), s' = { s₂ with heap := h, toks := tk } ∧ k = items.size + 1 - i ∧ i ≤ items.size ∧ Fr (hideAll s₂.heap [I]) C h m ∧ h.get? D = some (listOf ys.toArray ep) ∧ (h.IsListIter I ax i ∧ h.IsList ax items) ∧ ys.length = i ∧ (∀ j, j < i → ∃ y, ys[j]? = some y ∧ G j y ac) ∧
        News (hideAll s₂.heap [I]) C h ac ∧ ∀ p ∈ ac, p.1 ≠ D ∧ p.1 ≠ I)
      ?_ (items.size + 1) ⟨h₁, _, _, 0, [], 0, [], rfl, rfl, Nat.zero_le _, F₁, hacc, hst₁, rfl, fun j hj => absurd hj (Nat.not_lt_zero _), News.nil, fun p hp => nomatch hp⟩
    intro k s' hI9
    refine nameP ?_
    intro GG
    obtain ⟨h, tk, m, i, ys, ep, ac, es9, ek9, hin, F, hD, hS, hlen, hG', NA, hA⟩ := hI9
    unfold GG
    clear GG
    subst es9 ek9
    by_cases hlt : i < items.size
    · refine W.item i _ _ _ hlt hS fun v h₂ tk₂ hP hS₂ hk₂ => ?_
      have F₂ : Fr (hideAll s₂.heap [I]) C h₂ m := ⟨F.ns.at' fun o e => hk₂ _ o hCw e, fun b o e => hk₂ b o (hide_keep e).2 (F.keep b o e), F.above⟩
      obtain ⟨t, rfl⟩ := href _ _ hP
      refine wpAny_letOwnedTupleGo_listiter hS₂.1 ?_
      refine hasg i _ C h₂ _ m _ _ hP F₂ fun h₃ tk₃ m₃ F₃ hM hk₃ => ?_
      have hS₃ := W.frame _ _ _ hS₂ fun b hb o e => hk₃ b o (fun q => hCf (by have q' : b = C := q; exact q' ▸ hb)) e
      have hD₃ : h₃.get? D = some (listOf ys.toArray ep) := hk₃ D _ hDC (hk₂ D _ hDw hD)
      obtain ⟨oI, hoI, _⟩ := id hS₃.1
      have NA₃ : News (hideAll s₂.heap [I]) C h₃ ac := fun p hp => by
        have z := NA p hp
        exact ⟨hk₃ _ _ z.2.1 (hk₂ _ _ (by simpa using (hA p hp).2) z.1), z.2⟩
      have N₃ : News (hideAll s₂.heap [I]) C h₃ ((D, listOf ys.toArray ep) :: (I, oI) :: ac) := by
        intro p hp
        rcases List.mem_cons.mp hp with rfl | hp
        · exact ⟨hD₃, hDC, gnone⟩
        · rcases List.mem_cons.mp hp with rfl | hp
          · exact ⟨hoI, Ne.symm hCI, hideAll_none _ (List.mem_singleton.mpr rfl)⟩
          · exact NA₃ p hp
      refine wpAny_mono (helt i C D ys ep oI ac h₃ _ _ _ hlt hM F₃ N₃ hA hDI) (fun y s₃ hy => ?_) fun _ _ e => e
      refine nameP ?_
      intro GG
      obtain ⟨h₄, tk₄, m₄, ac₄, es9, F₄, N₄, hA₄, hsub, hg⟩ := hy
      unfold GG
      clear GG
      subst es9
      have hD₄ := (N₄ _ (List.mem_cons_self ..)).1
      have hS₄ := W.frame _ _ _ hS₃ fun b hb o e => by
        by_cases hw : b = I
        · subst hw
          rw [hoI] at e
          cases e
          exact (N₄ _ (List.mem_cons_of_mem _ List.mem_cons_self)).1
        · obtain ⟨o', ho'⟩ := hfw b hb (by simpa using hw)
          have hg' : (hideAll s₂.heap [I]).get? b = some o' := hideAll_get _ ho' (by simpa using hw)
          have e1 := F₃.keep b o' hg'
          rw [e] at e1
          cases e1
          exact F₄.keep b o hg'
      refine append_at (hsz := ?_) hD₄ fun h₅ hs₅ hD₅ => ?_
      · refine ⟨items.size + 1 - (i + 1), by (first | lia | omega), h₅, _, m₄, i + 1, ys ++ [y], ep + 1, ac₄, rfl, rfl, hlt, F₄.change hs₅ hDC gnone, ?_, W.frame _ _ _ hS₄ fun b hb o e => hs₅.extBut b o (fun q => hDf (q ▸ hb)) e, ?_, ?_, ?_, hA₄⟩
        · rw [hD₅]; simp
        · rw [List.length_append, hlen]; rfl
        · intro j hj
          by_cases hj' : j < i
          · obtain ⟨z, hz, hgz⟩ := hG' j hj'
            exact ⟨z, by rw [List.getElem?_append_left (by (first | lia | omega))]; exact hz, hG _ _ _ _ hsub hgz⟩
          · have : j = i := by (first | lia | omega)
            subst this
            exact ⟨y, by rw [← hlen]; simp, hg⟩
        · intro p hp
          have z := N₄ p (List.mem_cons_of_mem _ (List.mem_cons_of_mem _ hp))
          exact ⟨hs₅.extBut _ _ (hA₄ p hp).1 z.1, z.2⟩
      · rw [List.size_toArray, hlen]; exact Nat.le_trans hin hsz
    · have hi : i = items.size := by (first | lia | omega)
      subst hi
      refine W.done _ _ _ hS fun h₂ tk₂ hk₂ => ?_
      refine ⟨m, F.ns.at' fun o e => hk₂ _ o hCw e, fun h₃ hs₃ => ?_⟩
      refine done D h₃ _ ys ep ac (fresh D (Nat.le_refl _)) (hs₃.extBut D _ hDC (hk₂ D _ hDw hD)) hlen hG' (fun p hp => ?_) fun b o hb e =>
        hs₃.extBut b o (fun q => by rw [q, fresh C (by (first | lia | omega))] at e; cases e) (hk₂ b o (by simpa using hb) (F.keep b o (hideAll_get _ e (by simpa using hb))))
      have z := NA p hp
      refine ⟨hs₃.extBut _ _ z.2.1 (hk₂ _ _ (by simpa using (hA p hp).2) z.1), ?_, (hA p hp).1⟩
      cases e : s₂.heap.get? p.1 with
      | none => rfl
      | some o => have := hideAll_get [I] e (by simpa using (hA p hp).2); rw [z.2.2] at this; cases this
  exact codeAny_compStart_list (loop _ rfl) (W.self 0 _ _ _ hst₁ (loop _ rfl))
end
section
variable {prog : Program} {w : World} {A : Around} {E : Value → Shared → Prop} {env : Env}
theorem asgPair {x x₂ : Str} {px px₂ tp : Pos} {k} {scope : Scope} {cl : List (Str × Addr)} {C t : Addr} {v₁ v₂ : Value} {g : Heap} {m : Str → Option Value} {s : Shared} {Q : Unit → Shared → Prop} {n : Nat} (hh : A.handled = none) (hkind : scope.kind = .function) (hx : scope.names.lookup x = some .local) (hx₂ : scope.names.lookup x₂ = some .local)
    (F : Fr g C s.heap m) (ht : g.get? t = some { cls := .type "tuple", data := .seq #[v₁, v₂] n })
    (h : ∀ h' tk', Fr g C h' (fun y => if y = x₂ then some v₂ else if y = x then some v₁ else m y) → (∀ b o, b ≠ C → s.heap.get? b = some o → h'.get? b = some o) → Q () { s with heap := h', toks := tk' }) :
    wpAny (model prog w) A (assign (.Tuple [.Name x px, .Name x₂ px₂] k tp) (compEnvC scope cl C env) (.ref t)) Q E s := by
  refine assign_Tuple_tuple (items := #[v₁, v₂]) hh ⟨_, F.keep _ _ ht, rfl, n, rfl⟩ rfl rfl fun h₅ he => ?_
  have he' : ∀ b o, s.heap.get? b = some o → h₅.get? b = some o := fun b o e => he b o (Nat.ne_of_lt (Heap.lt_size e)) e
  refine assignInOrder_cons (wpAny_assign_Name (wpAny_storeName_local (lookup_relabel_local hx) ((F.keeps he').ns) (fun h₆ hn₆ hs₆ => ?_) (by simp [compEnvC, relabel, hkind])))
  refine assignInOrder_cons (wpAny_assign_Name (wpAny_storeName_local (lookup_relabel_local hx₂) hn₆ (fun h₇ hn₇ hs₇ => ?_) (by simp [compEnvC, relabel, hkind])))
  refine assignInOrder_nil (h h₇ _ (((F.keeps he').set hn₆ hs₆).set hn₇ hs₇) fun b o hb e => hs₇.extBut b o hb (hs₆.extBut b o hb (he' b o e)))
theorem asgTrip {x x₂ x₃ : Str} {px px₂ px₃ tp : Pos} {k} {scope : Scope} {cl : List (Str × Addr)} {C t : Addr} {v₁ v₂ v₃ : Value} {g : Heap} {m : Str → Option Value} {s : Shared} {Q : Unit → Shared → Prop} {n : Nat} (hh : A.handled = none) (hkind : scope.kind = .function) (hx : scope.names.lookup x = some .local) (hx₂ : scope.names.lookup x₂ = some .local) (hx₃ : scope.names.lookup x₃ = some .local)
    (F : Fr g C s.heap m) (ht : g.get? t = some { cls := .type "tuple", data := .seq #[v₁, v₂, v₃] n })
    (h : ∀ h' tk', Fr g C h' (fun y => if y = x₃ then some v₃ else if y = x₂ then some v₂ else if y = x then some v₁ else m y) → (∀ b o, b ≠ C → s.heap.get? b = some o → h'.get? b = some o) → Q () { s with heap := h', toks := tk' }) :
    wpAny (model prog w) A (assign (.Tuple [.Name x px, .Name x₂ px₂, .Name x₃ px₃] k tp) (compEnvC scope cl C env) (.ref t)) Q E s := by
  refine assign_Tuple_tuple (items := #[v₁, v₂, v₃]) hh ⟨_, F.keep _ _ ht, rfl, n, rfl⟩ rfl rfl fun h₅ he => ?_
  have he' : ∀ b o, s.heap.get? b = some o → h₅.get? b = some o := fun b o e => he b o (Nat.ne_of_lt (Heap.lt_size e)) e
  refine assignInOrder_cons (wpAny_assign_Name (wpAny_storeName_local (lookup_relabel_local hx) ((F.keeps he').ns) (fun h₆ hn₆ hs₆ => ?_) (by simp [compEnvC, relabel, hkind])))
  refine assignInOrder_cons (wpAny_assign_Name (wpAny_storeName_local (lookup_relabel_local hx₂) hn₆ (fun h₇ hn₇ hs₇ => ?_) (by simp [compEnvC, relabel, hkind])))
  refine assignInOrder_cons (wpAny_assign_Name (wpAny_storeName_local (lookup_relabel_local hx₃) hn₇ (fun h₈ hn₈ hs₈ => ?_) (by simp [compEnvC, relabel, hkind])))
  refine assignInOrder_nil (h h₈ _ ((((F.keeps he').set hn₆ hs₆).set hn₇ hs₇).set hn₈ hs₈) fun b o hb e => hs₈.extBut b o hb (hs₇.extBut b o hb (hs₆.extBut b o hb (he' b o e))))
noncomputable def PairsIn (its : Array Value) (xs ys : List Int) (tn : List (Addr × Obj)) : Prop :=
  its.size = xs.length ∧ ∀ j, j < xs.length → ∃ T t u, its[j]? = some (.ref T) ∧ (T, ({ cls := .type "tuple", data := .seq #[.int (xs.getD j 0) t, .int (ys.getD j 0) u] } : Obj)) ∈ tn
theorem pairs_led {h : Heap} {lo : Addr} {acc : Array Value} {xs ys : List Int} (hp : ∀ j, j < xs.length → ∃ T t u, acc[j]? = some (.ref T) ∧ IsPair h T (.int (xs.getD j 0) t) (.int (ys.getD j 0) u) ∧ @LT.lt Nat _ lo T) : ∀ n, n ≤ xs.length →
    ∃ tn : List (Addr × Obj), (∀ p ∈ tn, h.get? p.1 = some p.2 ∧ @LT.lt Nat _ lo p.1) ∧ ∀ j, j < n → ∃ T t u, acc[j]? = some (.ref T) ∧ (T, ({ cls := .type "tuple", data := .seq #[.int (xs.getD j 0) t, .int (ys.getD j 0) u] } : Obj)) ∈ tn
  | 0, _ => ⟨[], (fun _ h => nomatch h), fun j hj => absurd hj (Nat.not_lt_zero _)⟩
  | n + 1, hn => by
    obtain ⟨tn, h1, h2⟩ := pairs_led hp n (by (first | lia | omega))
    obtain ⟨T, t, u, a, b, c⟩ := hp n (by (first | lia | omega))
    refine ⟨(T, ({ cls := .type "tuple", data := .seq #[.int (xs.getD n 0) t, .int (ys.getD n 0) u] } : Obj)) :: tn, fun p hp' => ?_, fun j hj => ?_⟩
    · rcases List.mem_cons.mp hp' with rfl | hp'
      · exact ⟨b, c⟩
      · exact h1 p hp'
    · by_cases e : j = n
      · subst e; exact ⟨T, t, u, a, .head _⟩
      · obtain ⟨T', t', u', a', b'⟩ := h2 j (by (first | lia | omega))
        exact ⟨T', t', u', a', .tail _ b'⟩
theorem intsAre_get {vs : List Value} {ns : List Int} (h : IntsAre vs ns) : ∀ j, j < ns.length → ∃ t, vs[j]? = some (.int (ns.getD j 0) t) := by
  induction h with
  | nil => intro j hj; exact absurd hj (Nat.not_lt_zero _)
  | cons n t h ih =>
    intro j hj
    cases j with
    | zero => exact ⟨t, rfl⟩
    | succ j => obtain ⟨t', e⟩ := ih j (by simpa using hj); exact ⟨t', by simpa using e⟩
variable {h₀ : Heap} {L : Addr} {m : Str → Option Value}
theorem list_zip_pairs {s : Shared} {z TI TO i1 i2 l1 l2 : Addr} {vs ws : List Value} {xs ys : List Int} {news : List (Addr × Obj)} {Q : Value → Shared → Prop} (F : Fr h₀ L s.heap m) (N : News h₀ L s.heap news) (hh : A.handled = none) (hn : ys.length = xs.length) (hsz : xs.length ≤ 4096) (iv : IntsAre vs xs) (iw : IntsAre ws ys)
    (D : ZipApart z TI TO i1 i2 l1 l2) (hz : IsZip s.heap z TI TO .none) (hTI : IsPair s.heap TI (.ref i1) (.ref i2)) (hTO : ∃ a b, IsPair s.heap TO a b)
    (h1 : s.heap.IsListIter i1 l1 0) (h2 : s.heap.IsListIter i2 l2 0) (hl1 : s.heap.IsList l1 vs.toArray) (hl2 : s.heap.IsList l2 ws.toArray)
    (hnew : ∀ b ∈ [z, TO, i1, i2], h₀.get? b = none ∧ L ≠ b ∧ ∀ p ∈ news, p.1 ≠ b)
    (hQ : ∀ D acc tn c h', Fr h₀ L h' m → News h₀ L h' ((D, { cls := .type "list", data := .seq acc c }) :: (tn ++ news)) → PairsIn acc xs ys tn → AllNe D (tn ++ news) → Q (.ref D) { s with heap := h' }) : wpAny (model prog w) A (call (.type "list") [.ref z]) Q E s := by
  have n1 := hnew z (by simp)
  have n2 := hnew TO (by simp)
  have n3 := hnew i1 (by simp)
  have n4 := hnew i2 (by simp)
  have lv := iv.length
  have lw := iw.length
  refine call_list_zip hh (by simp [lv, lw, hn]) (by simp [lv, hsz]) D hz hTI hTO h1 h2 hl1 hl2 fun h' acc c hk hS hsz' hp => ?_
  have k0 : Ext h₀ h' := fun b o e => hk b o (fun q => by rw [q, n1.1] at e; cases e) (fun q => by rw [q, n2.1] at e; cases e) (fun q => by rw [q, n3.1] at e; cases e) (fun q => by rw [q, n4.1] at e; cases e) (F.keep b o e)
  have hfresh : ∀ b, s.heap.objs.size ≤ b → h₀.get? b = none ∧ b ≠ L ∧ ∀ p ∈ news, p.1 ≠ b := fun b hb => ⟨by
    cases e : h₀.get? b with
    | none => rfl
    | some o => exact absurd (Heap.lt_size (F.keep _ _ e)) (Nat.not_lt.mpr hb), fun q => absurd F.ns.lt (by rw [← q]; exact Nat.not_lt.mpr hb), fun p hp q => absurd (Heap.lt_size (N p hp).1) (by rw [q]; exact Nat.not_lt.mpr hb)⟩
  have F' : Fr h₀ L h' m := ⟨F.ns.at' fun o e => hk _ o n1.2.1 n2.2.1 n3.2.1 n4.2.1 e, k0, F.above⟩
  have hp' : ∀ j, j < xs.length → ∃ T t u, acc[j]? = some (.ref T) ∧ IsPair h' T (.int (xs.getD j 0) t) (.int (ys.getD j 0) u) ∧ @LT.lt Nat _ s.heap.objs.size T := fun j hj => by
    obtain ⟨T, x, y, a, b, c, d, e⟩ := hp j (by simpa [lv] using hj)
    obtain ⟨t, et⟩ := intsAre_get iv j hj
    obtain ⟨u, eu⟩ := intsAre_get iw j (by (first | lia | omega))
    have b' : vs[j]? = some x := by simpa using b
    have c' : ws[j]? = some y := by simpa using c
    rw [et] at b'
    rw [eu] at c'
    cases b'
    cases c'
    exact ⟨T, t, u, a, d, e⟩
  obtain ⟨tn, t1, t2⟩ := pairs_led hp' xs.length (Nat.le_refl _)
  refine hQ _ acc tn c h' F' (fun p hp => ?_) ⟨by rw [hsz']; simp [lv], t2⟩ (allNe_of fun p hp => ?_)
  · rcases List.mem_cons.mp hp with rfl | hp
    · exact ⟨hS, (hfresh _ (Nat.le_refl _)).2.1, (hfresh _ (Nat.le_refl _)).1⟩
    · rcases List.mem_append.mp hp with hp | hp
      · obtain ⟨a, b⟩ := t1 p hp
        have q := hfresh p.1 (Nat.le_of_lt b)
        exact ⟨a, q.2.1, q.1⟩
      · exact ⟨hk _ _ (n1.2.2 p hp) (n2.2.2 p hp) (n3.2.2 p hp) (n4.2.2 p hp) (N p hp).1, (N p hp).2⟩
  · rcases List.mem_append.mp hp with hp | hp
    · exact fun q => Nat.ne_of_gt (t1 p hp).2 q
    · exact (hfresh _ (Nat.le_refl _)).2.2 p hp
theorem list_zip_K {s : Shared} {h : Heap} {z TI TO i1 i2 l1 l2 : Addr} {vs ws : List Value} {xs ys : List Int} {news : List (Addr × Obj)} {Q : Value → Shared → Prop} (F : Fr h₀ L s.heap m) (N : News h₀ L s.heap news) (F₀ : Fr h₀ L h m) (N₀ : News h₀ L h news) (hh : A.handled = none) (hn : ys.length = xs.length) (hsz : xs.length ≤ 4096) (iv : IntsAre vs xs) (iw : IntsAre ws ys)
    (D : ZipApart z TI TO i1 i2 l1 l2) (Z : IsZip s.heap z TI TO .none ∧ IsPair s.heap TI (.ref i1) (.ref i2) ∧ (∃ a b, IsPair s.heap TO a b) ∧ s.heap.IsListIter i1 l1 0 ∧ s.heap.IsListIter i2 l2 0 ∧ s.heap.IsList l1 vs.toArray ∧ s.heap.IsList l2 ws.toArray)
    (kz : @LE.le Nat _ h.objs.size z) (kTO : @LE.le Nat _ h.objs.size TO) (k1 : @LE.le Nat _ h.objs.size i1) (k2 : @LE.le Nat _ h.objs.size i2)
    (hQ : ∀ D acc tn c h', Fr h₀ L h' m → News h₀ L h' ((D, { cls := .type "list", data := .seq acc c }) :: (news ++ tn)) → PairsIn acc xs ys tn → AllNe D (news ++ tn) → Q (.ref D) { s with heap := h' }) : wpAny (model prog w) A (call (.type "list") [.ref z]) Q E s := by
  obtain ⟨z1, z2, z3, z4, z5, z6, z7⟩ := Z
  refine list_zip_pairs F N hh hn hsz iv iw D z1 z2 z3 z4 z5 z6 z7 (fun b hb => ?_) fun D acc tn c h' F' N' hP hne => hQ D acc tn c h' F' (fun p hp => N' p ?_) hP (allNe_of fun p hp => allNe_to hne p ?_)
  · have hb' : @LE.le Nat _ h.objs.size b := by
      simp only [List.mem_cons, List.not_mem_nil, or_false] at hb
      rcases hb with rfl | rfl | rfl | rfl <;> assumption
    exact ⟨by
      cases e : h₀.get? b with
      | none => rfl
      | some o => exact absurd (Heap.lt_size (F₀.keep _ _ e)) (Nat.not_lt.mpr hb'), fun q => absurd F₀.ns.lt (by rw [q]; exact Nat.not_lt.mpr hb'), fun p hp q => absurd (Heap.lt_size (N₀ p hp).1) (by rw [q]; exact Nat.not_lt.mpr hb')⟩
  · rcases List.mem_cons.mp hp with rfl | hp
    · exact .head _
    · exact .tail _ (List.mem_append.mpr (List.mem_append.mp hp).symm)
  · exact List.mem_append.mpr (List.mem_append.mp hp).symm
theorem compPairs {elt iter : Expr} {x x₂ : Str} {px px₂ tp : Pos} {k} {scope : Scope} {cl : List (Str × Addr)} {pos : Pos} {s : Shared} {ax : Addr} {its : Array Value} {c : Nat} {xs ys : List Int} {tn news : List (Addr × Obj)} {Q : Value → Shared → Prop} (val : Int → Int → Int)
    (F : Fr h₀ L s.heap m) (N : News h₀ L s.heap news) (hh : A.handled = none) (hm : (ax, ({ cls := .type "list", data := .seq its c } : Obj)) ∈ news) (htn : ∀ p ∈ tn, p ∈ news) (hP : PairsIn its xs ys tn) (hn : ys.length = xs.length) (hsz : xs.length ≤ sizeLine)
    (hcell : ∀ y ∈ scope.names, y.2 ≠ .cell) (hkind : scope.kind = .function) (hx : scope.names.lookup x = some .local) (hx₂ : scope.names.lookup x₂ = some .local) (hxx : x ≠ x₂)
    (helt : ∀ (g : Heap) i t u C D (zs : List Value) ep own h tk m' E', Ext h₀ g → i < xs.length → m' x = some (.int (xs.getD i 0) t) → m' x₂ = some (.int (ys.getD i 0) u) → Fr g C h m' → News g C h ((D, listOf zs.toArray ep) :: own) → (∀ p ∈ own, p.1 ≠ D) →
      wpAny (model prog w) A (eval elt (compEnvC scope cl C env)) (CPost g C D s zs ep own (val (xs.getD i 0) (ys.getD i 0))) E' { s with heap := h, toks := tk })
    (done : ∀ D h' tk (zs : List Value) ep, Fr h₀ L h' m → News h₀ L h' ((D, listOf zs.toArray ep) :: news) → AllNe D news → IntsAre zs ((xs.zip ys).map fun p => val p.1 p.2) → Q (.ref D) { s with heap := h', toks := tk }) :
    wpAny (model prog w) A (pyIter (.ref ax)) (fun it s₂ => wpAny (model prog w) A (newList []) (fun acc s₃ => wpAny (model prog w) A (newFunctionEnv scope env.globals cl [] env.qual none .none (some env)) (fun cenv s₄ =>
      codeAny (model prog w) A (.compStart (.ListComp elt [⟨.Tuple [.Name x px, .Name x₂ px₂] k tp, iter, [], 0⟩] scope pos) 0 it acc { cenv with scope := relabel scope env }) (compPost (model prog w) A E none Q acc cenv.locals) s₄) E s₃) E s₂) E s := by
  have hl : s.heap.IsList ax its := ⟨_, (N _ hm).1, rfl, c, rfl⟩
  have hlt : ax < s.heap.objs.size := Heap.lt_size (N _ hm).1
  refine wpAny_pyIter_list hl ?_
  have up : ∀ b o, s.heap.get? b = some o → (s.heap.push { cls := .type "list_iterator", data := .fields #[.ref ax, .int 0 0] }).get? b = some o := fun b o e => Heap.get?_push_of_some _ e
  have off : ∀ b o, s.heap.get? b = some o → b ∉ [s.heap.objs.size] := fun b o e hm => by
    rw [List.mem_singleton.mp hm] at e
    exact absurd (Heap.lt_size e) (Nat.lt_irrefl _)
  have kk : Ext s.heap (hideAll (s.heap.push { cls := .type "list_iterator", data := .fields #[.ref ax, .int 0 0] }) [s.heap.objs.size]) := fun b o e => hideAll_get _ (up b o e) (off b o e)
  refine compKT (I := s.heap.objs.size) (ax := ax) (items := its) hh (Nat.ne_of_lt hlt) (by rw [hP.1]; exact hsz) (fun i y _ => ∃ t, y = .int (val (xs.getD i 0) (ys.getD i 0)) t) (fun i m' => (∃ t, m' x = some (.int (xs.getD i 0) t)) ∧ ∃ u, m' x₂ = some (.int (ys.getD i 0) u)) (fun _ _ _ _ _ h => h) hcell hkind ⟨⟨_, Heap.get?_push_size _ rfl, rfl, rfl⟩, hl.push _⟩ ?_ ?_ ?_ ?_
  · intro i v e
    have hi : i < xs.length := by rw [← hP.1]; exact (Array.getElem?_eq_some_iff.mp e).1
    obtain ⟨T, t, u, a, b⟩ := hP.2 i hi
    rw [e] at a; cases a
    exact ⟨T, rfl⟩
  · intro i v C h tk m' Q' E' e F' hQ'
    have hi : i < xs.length := by rw [← hP.1]; exact (Array.getElem?_eq_some_iff.mp e).1
    obtain ⟨T, t, u, a, b⟩ := hP.2 i hi
    rw [e] at a; cases a
    refine asgPair hh hkind hx hx₂ F' (kk _ _ (N _ (htn _ b)).1) fun h' tk' F'' k' => hQ' h' tk' _ F'' ⟨⟨t, ?_⟩, ⟨u, ?_⟩⟩ k'
    · rw [if_neg hxx, if_pos rfl]
    · rw [if_pos rfl]
  · rintro i C D zs ep oI ac h tk m' E' hi ⟨⟨t, e1⟩, ⟨u, e2⟩⟩ F' N' hA hDI
    refine wpAny_mono (helt _ i t u C D zs ep ((s.heap.objs.size, oI) :: ac) h tk m' E' (fun b o e => kk b o (F.keep b o e)) (by rw [← hP.1]; exact hi) e1 e2 F' N' (fun p hp => ?_)) (fun y s₃ q => ?_) fun _ _ q => q
    · rcases List.mem_cons.mp hp with rfl | hp
      · exact fun q => hDI q.symm
      · exact (hA p hp).1
    · obtain ⟨h', tk', m'', e, F'', N'', hg⟩ := q
      exact ⟨h', tk', m'', ac, e, F'', N'', hA, (fun _ h => h), hg⟩
  · intro D h' tk zs ep ac hnone hD hlen hys hac hk
    have k : ∀ b o, s.heap.get? b = some o → h'.get? b = some o := fun b o e => hk b o (by simpa using off b o e) (up b o e)
    have hDn : s.heap.get? D = none := by
      cases e : s.heap.get? D with
      | none => rfl
      | some o => have := up D o e; rw [hnone] at this; cases this
    have hz : ((xs.zip ys).map fun p => val p.1 p.2).length = xs.length := by simp [hn]
    refine done D h' tk zs ep (fr_ext F k) (news_new F N k hDn hD) (news_ne N hDn) (intsAre_of (by rw [hz, hlen, hP.1]) fun i z hz' => ?_)
    have hi : i < xs.length := by rw [← hz]; exact (List.getElem?_eq_some_iff.mp hz').1
    obtain ⟨y, hy, t', e'⟩ := hys i (by rw [hP.1]; exact hi)
    have hv : z = val (xs.getD i 0) (ys.getD i 0) := by
      rw [List.getElem?_map] at hz'
      obtain ⟨q, hq, rfl⟩ := Option.map_eq_some_iff.mp hz'
      obtain ⟨q1, q2⟩ := q
      have := List.getElem?_zip_eq_some.mp hq
      simp only [List.getD, this.1, this.2, Option.getD_some]
    exact ⟨t', by rw [hy, e', hv]⟩
end
section
variable {prog : Program} {w : World} {A : Around} {E : Value → Shared → Prop} {env : Env} {h₀ : Heap} {L : Addr} {m : Str → Option Value}
theorem compInts {elt iter : Expr} {x : Str} {px : Pos} {scope : Scope} {cl : List (Str × Addr)} {pos : Pos} {s : Shared} {ax : Addr} {vs : List Value} {c : Nat} {xs : List Int} {news : List (Addr × Obj)} {Q : Value → Shared → Prop} (val : Int → Int)
    (F : Fr h₀ L s.heap m) (N : News h₀ L s.heap news) (hh : A.handled = none) (hm : (ax, listOf vs.toArray c) ∈ news) (hi : IntsAre vs xs) (hsz : xs.length ≤ sizeLine)
    (hcell : ∀ y ∈ scope.names, y.2 ≠ .cell) (hkind : scope.kind = .function) (hx : scope.names.lookup x = some .local)
    (helt : ∀ (g : Heap) i t C D (zs : List Value) ep own h tk m' E', Ext h₀ g → i < xs.length → m' x = some (.int (xs.getD i 0) t) → Fr g C h m' → News g C h ((D, listOf zs.toArray ep) :: own) → (∀ p ∈ own, p.1 ≠ D) →
      wpAny (model prog w) A (eval elt (compEnvC scope cl C env)) (CPost g C D s zs ep own (val (xs.getD i 0))) E' { s with heap := h, toks := tk })
    (done : ∀ D h' tk (zs : List Value) ep, Fr h₀ L h' m → News h₀ L h' ((D, listOf zs.toArray ep) :: news) → AllNe D news → IntsAre zs (xs.map val) → Q (.ref D) { s with heap := h', toks := tk }) :
    wpAny (model prog w) A (pyIter (.ref ax)) (fun it s₂ => wpAny (model prog w) A (newList []) (fun acc s₃ => wpAny (model prog w) A (newFunctionEnv scope env.globals cl [] env.qual none .none (some env)) (fun cenv s₄ =>
      codeAny (model prog w) A (.compStart (.ListComp elt [⟨.Name x px, iter, [], 0⟩] scope pos) 0 it acc { cenv with scope := relabel scope env }) (compPost (model prog w) A E none Q acc cenv.locals) s₄) E s₃) E s₂) E s := by
  have hl : s.heap.IsList ax vs.toArray := ⟨_, (N _ hm).1, rfl, c, rfl⟩
  have hlt : ax < s.heap.objs.size := Heap.lt_size (N _ hm).1
  have hlen := hi.length
  refine wpAny_pyIter_list hl ?_
  have up : ∀ b o, s.heap.get? b = some o → (s.heap.push { cls := .type "list_iterator", data := .fields #[.ref ax, .int 0 0] }).get? b = some o := fun b o e => Heap.get?_push_of_some _ e
  have off : ∀ b o, s.heap.get? b = some o → b ∉ [s.heap.objs.size] := fun b o e hm => by
    rw [List.mem_singleton.mp hm] at e
    exact absurd (Heap.lt_size e) (Nat.lt_irrefl _)
  have kk : Ext s.heap (hideAll (s.heap.push { cls := .type "list_iterator", data := .fields #[.ref ax, .int 0 0] }) [s.heap.objs.size]) := fun b o e => hideAll_get _ (up b o e) (off b o e)
  refine compK (Walks.list hh s.heap.objs.size ax (Nat.ne_of_lt hlt) vs.toArray) (by rw [List.size_toArray, hlen]; exact hsz) (fun i y => ∃ t, y = .int (val (xs.getD i 0)) t) hcell hkind hx ⟨⟨_, Heap.get?_push_size _ rfl, rfl, rfl⟩, hl.push _⟩ ?_ ?_ ?_ ?_
  · intro b hb
    rcases List.mem_cons.mp hb with rfl | hb
    · rw [Heap.size_push]; exact Nat.lt_succ_self _
    · rw [List.mem_singleton.mp hb, Heap.size_push]; exact Nat.lt_succ_of_lt hlt
  · intro b hb hb'
    rcases List.mem_cons.mp hb with rfl | hb
    · exact absurd (List.mem_singleton.mpr rfl) hb'
    · rw [List.mem_singleton.mp hb]; exact ⟨_, up _ _ (N _ hm).1⟩
  · intro i v C D ys ep own h tk m' E' hlt hv hm' F' N' hD
    have hj : i < xs.length := by rw [List.size_toArray] at hlt; (first | lia | omega)
    obtain ⟨t, e⟩ := intsAre_get hi i hj
    have hv' : vs[i]? = some v := by simpa using hv
    rw [e] at hv'
    cases hv'
    exact helt _ i t C D ys ep own h tk m' E' (fun b o e => kk b o (F.keep b o e)) hj hm' F' N' hD
  · intro D h' tk ys ep hnone hD hlen' hys hk
    have k : ∀ b o, s.heap.get? b = some o → h'.get? b = some o := fun b o e => hk b o (off b o e) (up b o e)
    have hDn : s.heap.get? D = none := by
      cases e : s.heap.get? D with
      | none => rfl
      | some o => have := up D o e; rw [hnone] at this; cases this
    rw [List.size_toArray] at hlen' hys
    refine done D h' tk ys ep (fr_ext F k) (news_new F N k hDn hD) (news_ne N hDn) (intsAre_of (by simp [hlen', hlen]) fun i z hz => ?_)
    rw [List.getElem?_map] at hz
    obtain ⟨j, hj, rfl⟩ := Option.map_eq_some_iff.mp hz
    have hi' : i < xs.length := (List.getElem?_eq_some_iff.mp hj).1
    obtain ⟨y, hy, t', e'⟩ := hys i (by (first | lia | omega))
    refine ⟨t', ?_⟩
    rw [hy, e']
    simp only [List.getD, hj, Option.getD_some]
end

end CptS
section CmiS
section
variable {prog : Program} {w : World} {A : Around} {E : Value → Shared → Prop} {s : Shared} {g : Heap} {L l b : Addr} {vs ws : List Value} {n n2 : Nat} {xs ys : List Int} {Q : Value → Shared → Prop} {news : List (Addr × Obj)}
open PySem.MeetsSeq PySem.MeetsSeq3
theorem ints_at (iv : IntsAre vs xs) (j : Nat) (h : j < vs.toArray.size) : ∃ t, vs.toArray[j] = .int (xs.getD j 0) t := by
  have hl := iv.length
  have hj : j < vs.length := by simpa using h
  obtain ⟨t, e⟩ := intsAre_get iv j (by (first | lia | omega))
  refine ⟨t, ?_⟩
  rw [List.getElem_toArray]
  rw [List.getElem?_eq_getElem hj] at e
  exact Option.some.inj e
theorem cmp_ints_lt (N : News g L s.heap news) (hl : (l, listOf vs.toArray n) ∈ news) (hb : (b, listOf ws.toArray n2) ∈ news) (iv : IntsAre vs xs) (iw : IntsAre ws ys) (he : xs.length = ys.length) (hu : A.units + 64 < cLine) (h : Q (.bool (lexLt xs ys)) s) :
    wpAny (model prog w) A (compareOp .Lt (.ref l) (.ref b)) Q E s := by
  have lv := iv.length
  have lw := iw.length
  refine cmp_list_lt (by (first | lia | omega)) (N _ hl).1 (N _ hb).1 (by simp [lv, lw, he]) (fun j => xs.getD j 0 == ys.getD j 0) (fun j => decide (xs.getD j 0 < ys.getD j 0)) (fun j h1 h2 => ?_) (fun j h1 h2 => ?_) ?_
  · obtain ⟨t, e1⟩ := ints_at iv j h1
    obtain ⟨u, e2⟩ := ints_at iw j h2
    rw [e1, e2]; exact EqGives.int _ _ _ _
  · obtain ⟨t, e1⟩ := ints_at iv j h1
    obtain ⟨u, e2⟩ := ints_at iw j h2
    rw [e1, e2]; exact LtGives.int _ _ _ _
  · have := firstLt_lex he xs.length 0 (Nat.sub_zero _)
    rw [List.drop_zero, List.drop_zero, List.drop_zero] at this
    rw [show vs.toArray.size = xs.length by simp [lv], this]
    exact h
theorem cmp_ints_gt (N : News g L s.heap news) (hl : (l, listOf vs.toArray n) ∈ news) (hb : (b, listOf ws.toArray n2) ∈ news) (iv : IntsAre vs xs) (iw : IntsAre ws ys) (he : xs.length = ys.length) (hu : A.units + 64 < cLine) (h : Q (.bool (lexLt ys xs)) s) :
    wpAny (model prog w) A (compareOp .Gt (.ref l) (.ref b)) Q E s := by
  have lv := iv.length
  have lw := iw.length
  refine cmp_list_gt (by (first | lia | omega)) (N _ hl).1 (N _ hb).1 (by simp [lv, lw, he]) (fun j => ys.getD j 0 == xs.getD j 0) (fun j => decide (ys.getD j 0 < xs.getD j 0)) (fun j h1 h2 => ?_) (fun j h1 h2 => ?_) ?_
  · obtain ⟨t, e1⟩ := ints_at iv j h1
    obtain ⟨u, e2⟩ := ints_at iw j h2
    rw [e1, e2, BEq.comm (a := ys.getD j 0)]; exact EqGives.int _ _ _ _
  · obtain ⟨t, e1⟩ := ints_at iv j h1
    obtain ⟨u, e2⟩ := ints_at iw j h2
    rw [e1, e2]; exact GtGives.int _ _ _ _
  · have := firstLt_lex he.symm ys.length 0 (Nat.sub_zero _)
    rw [List.drop_zero, List.drop_zero, List.drop_zero] at this
    rw [show vs.toArray.size = ys.length by simp [lv, he], this]
    exact h
end

end CmiS
section RdfS
section
variable {M : Model} {A : Around} {E : Value → Shared → Prop} {g : Heap} {L : Addr} {m : Str → Option Value} {hd tn : List (Addr × Obj)} {R : List (Addr × Obj) → Value → Prop} {h : Heap} {ge : Array GenState} {dr : Drawn} {tk : Nat} {os : OsState}
noncomputable def RPost (g : Heap) (L : Addr) (m : Str → Option Value) (hd tn : List (Addr × Obj)) (R : List (Addr × Obj) → Value → Prop) (ge : Array GenState) (dr : Drawn) (os : OsState) (v : Value) (s' : Shared) : Prop :=
  ∃ tn' h' tk, s' = ⟨h', ge, dr, tk, os⟩ ∧ Fr g L h' m ∧ News g L h' (hd ++ tn') ∧ (∀ p ∈ tn, p ∈ tn') ∧ R tn' v
theorem cutR {t : Sem Value} {Q : Value → Shared → Prop} (_F : Fr g L h m) (hd tn : List (Addr × Obj)) (_N : News g L h (hd ++ tn)) (R : List (Addr × Obj) → Value → Prop) (hb : wpAny M A t (RPost g L m hd tn R ge dr os) E ⟨h, ge, dr, tk, os⟩)
    (hQ : ∀ v tn' h' tk, Fr g L h' m → News g L h' (hd ++ tn') → (∀ p ∈ tn, p ∈ tn') → R tn' v → Q v ⟨h', ge, dr, tk, os⟩) : wpAny M A t Q E ⟨h, ge, dr, tk, os⟩ :=
  wpAny_mono hb (fun v s' P9 => by obtain ⟨tn', h', tk, e, F, N, k, r⟩ := P9; subst e; exact hQ v tn' h' tk F N k r) fun _ _ z => z
theorem RPost.intro {v : Value} {news : List (Addr × Obj)} (F : Fr g L h m) (N : News g L h news) (hh : ∀ p ∈ hd, p ∈ news) (ht : ∀ p ∈ tn, p ∈ news) (r : R news v) : RPost g L m hd tn R ge dr os v ⟨h, ge, dr, tk, os⟩ :=
  ⟨news, h, tk, rfl, F, fun p hp => (List.mem_append.mp hp).elim (fun hp => N p (hh p hp)) (fun hp => N p hp), ht, r⟩
end
theorem nameF {P : Prop} {g h : Heap} {L : Addr} {m : Str → Option Value} (F : Fr g L h m) (k : let mm := m; Fr g L h mm → P) : P := k F
structure Rs0 where
  lb : Addr
  lo : Addr
  vb : List Value
  vo : List Value
  nb : Nat
  no : Nat
structure Rs1 where
  lb : Addr
  lo : Addr
  vb : List Value
  vo : List Value
  nb : Nat
  no : Nat
  x1 : Int
  k1 : Tok
  x2 : Int
  k2 : Tok
structure Rs2 where
  lb : Addr
  lo : Addr
  vb : List Value
  vo : List Value
  nb : Nat
  no : Nat
  x1 : Int
  k1 : Tok
  x2 : Int
  k2 : Tok
  x3 : Int
  k3 : Tok
  x4 : Int
  k4 : Tok
structure Rs3 where
  lb : Addr
  lo : Addr
  vb : List Value
  vo : List Value
  nb : Nat
  no : Nat
  x1 : Int
  k1 : Tok
  x2 : Int
  k2 : Tok
  x3 : Int
  k3 : Tok
  x4 : Int
  k4 : Tok
  x5 : Int
  k5 : Tok
  x6 : Int
  k6 : Tok
  x7 : Int
  k7 : Tok
structure Rs4 where
  lb : Addr
  lo : Addr
  vb : List Value
  vo : List Value
  nb : Nat
  no : Nat
  x1 : Int
  k1 : Tok
  x2 : Int
  k2 : Tok
  x3 : Int
  k3 : Tok
  x4 : Int
  k4 : Tok
  x5 : Int
  k5 : Tok
  x6 : Int
  k6 : Tok
  x7 : Int
  k7 : Tok
  x8 : Int
  k8 : Tok
  x9 : Int
  k9 : Tok
structure Rs5 where
  lb : Addr
  lo : Addr
  vb : List Value
  vo : List Value
  nb : Nat
  no : Nat
  x1 : Int
  k1 : Tok
  x2 : Int
  k2 : Tok
  x3 : Int
  k3 : Tok
  x4 : Int
  k4 : Tok
  x5 : Int
  k5 : Tok
  x6 : Int
  k6 : Tok
  x7 : Int
  k7 : Tok
  x8 : Int
  k8 : Tok
  x9 : Int
  k9 : Tok
  pl : Addr
  its : Array Value
  nc : Nat
  tn : List (Addr × Obj)
  x10 : Int
  k10 : Tok
structure Rs6 where
  lb : Addr
  lo : Addr
  vb : List Value
  vo : List Value
  nb : Nat
  no : Nat
  x8 : Int
  k8 : Tok
  x9 : Int
  k9 : Tok
  pl : Addr
  its : Array Value
  nc : Nat
  rl : Addr
  rv : List Value
  rn : Nat
  tn : List (Addr × Obj)
structure Rs7 where
  lb : Addr
  lo : Addr
  vb : List Value
  vo : List Value
  nb : Nat
  no : Nat
  x8 : Int
  k8 : Tok
  x9 : Int
  k9 : Tok
  pl : Addr
  its : Array Value
  nc : Nat
  rl : Addr
  rv : List Value
  rn : Nat
  tn : List (Addr × Obj)
  y1 : Bool
  y2 : Bool
structure Rs8 where
  lb : Addr
  vb : List Value
  nb : Nat
  pl : Addr
  its : Array Value
  nc : Nat
  rl : Addr
  rv : List Value
  rn : Nat
  tl : Addr
  tv : List Value
  tk0 : Nat
  tn : List (Addr × Obj)
structure Rs9 where
  lb : Addr
  vb : List Value
  nb : Nat
  pl : Addr
  its : Array Value
  nc : Nat
  rl : Addr
  rv : List Value
  rn : Nat
  tl : Addr
  tv : List Value
  tk0 : Nat
  tn : List (Addr × Obj)
structure Rs10 where
  lb : Addr
  vb : List Value
  nb : Nat
  pl : Addr
  its : Array Value
  nc : Nat
  rl : Addr
  rv : List Value
  rn : Nat
  tl : Addr
  tv : List Value
  tk0 : Nat
  tn : List (Addr × Obj)
structure Rs11 where
  lb : Addr
  vb : List Value
  nb : Nat
  pl : Addr
  its : Array Value
  nc : Nat
  rl : Addr
  rv : List Value
  rn : Nat
  tl : Addr
  tv : List Value
  tk0 : Nat
  tn : List (Addr × Obj)
structure Rs12 where
  lb : Addr
  vb : List Value
  nb : Nat
  pl : Addr
  its : Array Value
  nc : Nat
  rl : Addr
  rv : List Value
  rn : Nat
  tl : Addr
  tv : List Value
  tk0 : Nat
  tn : List (Addr × Obj)
noncomputable def HidD (a : Int) (dg : List Int) : Prop := dg = digits (bitsN a 256)
section
variable {w : World} {s : Shared} {Q E : Value → Shared → Prop} {k n dp un : Nat} {gd : Option (List Code)} {outer : List Env} {f : Addr} {args : List Value} {Pre : Heap → Prop}
  {g : Heap} {L : Addr} {m : Str → Option Value} {news : List (Addr × Obj)} {mean : ExcName → Option Value} {mg mb : Str → Option Value}
noncomputable abbrev PListD (a : Int) : Heap → Heap → Value → Prop := fun h h' v => ∃ dg, HidD a dg ∧ dg.length = 32 ∧ PList dg h h' v
theorem law_digits_specD (a : Int) (l : Addr) : Spec w 2 665 [.ref l] (fun h => IsL h l (bitsN a 256) ∧ (bitsN a 256).length = 256) (PListD a) :=
  fun s Q E dp un gd outer hR hX hP hQ => law_digits_spec l _ s Q E dp un gd outer hR hX hP fun v h' tk hE hp => hQ v h' tk hE ⟨_, rfl, digits_len _, hp⟩
theorem Spec.useLD {a : Int} (S : Spec w k f args Pre (PListD a)) (R : Room n dp un) (F : Fr g L s.heap m) (N : News g L s.heap news) (X : (hd.heap_39 w.params).In g) (T : Top VW LS mean mg mb g) (hp : Pre s.heap) (hk : k ≤ n)
    (h : ∀ dg, HidD a dg → dg.length = 32 → ∀ l vs nn h' tk, Fr g L h' m → News g L h' ((l, listOf (List.toArray vs) nn) :: news) → IntsAre vs dg → vs.length = dg.length → AllNe l news → Q (.ref l) { s with heap := h', toks := tk }) : wpAny (model PR w) (mkA dp un gd outer) (call (.ref f) args) Q E s :=
  S s Q E dp un gd outer (R.le hk) (Wd.at X T F) hp fun v h' tk hE P9 => by obtain ⟨dg, hg, hd, l, e, hn, vs, nn, ho, hi⟩ := P9; subst e; exact h dg hg hd l vs nn h' tk (fr_ext F hE) (news_new F N hE hn ho) hi hi.length (news_ne N hn)
end
noncomputable def Is (x y : Int) : Prop := x = y
theorem Is.mk {x y : Int} (h : x = y) : Is x y := h
theorem is_dig {a q : Int} {dg : List Int} (h : HidD a dg) (hq : q < 32) : Is (dg.getD q.toNat 0) (if q < 32 then (digits (bitsN a 256)).getD q.toNat 0 else 0) := by unfold HidD at h; subst h; exact (if_pos hq).symm
noncomputable abbrev Row := Str × List Int × Int
noncomputable def RowIn (tn : List (Addr × Obj)) (v : Value) (r : Row) : Prop :=
  ∃ T t1 Lw wv nn t2 t3 due, v = .ref T ∧ (T, ({ cls := .type "tuple", data := .seq #[.str r.1 t1, .ref Lw, .int due t2, .int r.2.2 t3] } : Obj)) ∈ tn ∧ (Lw, listOf (List.toArray wv) nn) ∈ tn ∧ IntsAre wv r.2.1 ∧ Is due r.2.2
noncomputable def RowsG (P : Value → Row → Prop) : List Value → List Row → Prop
  | [], [] => True
  | v :: vs, r :: rs => P v r ∧ RowsG P vs rs
  | _, _ => False
theorem RowsG.nil {P : Value → Row → Prop} : RowsG P [] [] := trivial
theorem RowsG.cons {P : Value → Row → Prop} {v : Value} {vs : List Value} {r : Row} {rs : List Row} (h : P v r) (t : RowsG P vs rs) : RowsG P (v :: vs) (r :: rs) := ⟨h, t⟩
theorem RowsG.mono {P P' : Value → Row → Prop} (k : ∀ v r, P v r → P' v r) : ∀ {vs : List Value} {rs : List Row}, RowsG P vs rs → RowsG P' vs rs
  | [], [], _ => trivial
  | _ :: _, _ :: _, h => ⟨k _ _ h.1, h.2.mono k⟩
  | [], _ :: _, h => h.elim
  | _ :: _, [], h => h.elim
theorem RowsG.snoc {P : Value → Row → Prop} : ∀ {vs : List Value} {rs : List Row} {v : Value} {r : Row}, RowsG P vs rs → P v r → RowsG P (vs ++ [v]) (rs ++ [r])
  | [], [], _, _, _, p => ⟨p, trivial⟩
  | _ :: _, _ :: _, _, _, h, p => ⟨h.1, h.2.snoc p⟩
  | [], _ :: _, _, _, h, _ => h.elim
  | _ :: _, [], _, _, h, _ => h.elim
theorem RowsG.length {P : Value → Row → Prop} : ∀ {vs : List Value} {rs : List Row}, RowsG P vs rs → vs.length = rs.length
  | [], [], _ => rfl
  | _ :: _, _ :: _, h => congrArg (· + 1) h.2.length
  | [], _ :: _, h => h.elim
  | _ :: _, [], h => h.elim
noncomputable abbrev RowsIn (tn : List (Addr × Obj)) : List Value → List Row → Prop := RowsG (RowIn tn)
theorem RowIn.intro {tn : List (Addr × Obj)} {r : Row} {T Lw : Addr} {t1 t2 t3 : Tok} {wv : List Value} {nn : Nat} {due : Int} (h1 : (T, ({ cls := .type "tuple", data := .seq #[.str r.1 t1, .ref Lw, .int due t2, .int r.2.2 t3] } : Obj)) ∈ tn) (h2 : (Lw, listOf (List.toArray wv) nn) ∈ tn) (h3 : IntsAre wv r.2.1) (h4 : Is due r.2.2) : RowIn tn (.ref T) r :=
  ⟨T, t1, Lw, wv, nn, t2, t3, due, rfl, h1, h2, h3, h4⟩
theorem RowIn.mono {a b : List (Addr × Obj)} {v : Value} {r : Row} (k : ∀ p ∈ a, p ∈ b) (h : RowIn a v r) : RowIn b v r := by
  obtain ⟨T, t1, Lw, wv, nn, t2, t3, due, e1, e2, e3, e4, e5⟩ := h
  exact e1 ▸ RowIn.intro (k _ e2) (k _ e3) e4 e5
noncomputable def IsB (x y : Bool) : Prop := x = y
noncomputable def IsV (v : Value) (d : Int) : Prop := (∃ b : Bool, v = .bool b ∧ d = if b = true then 1 else 0) ∨ ∃ t, v = .int d t
theorem IsV.b {x y : Bool} (h : IsB x y) : IsV (.bool x) (if y = true then 1 else 0) := .inl ⟨x, rfl, by unfold IsB at h; rw [h]⟩
theorem IsV.i {d e : Int} {t : Tok} (h : d = e) : IsV (.int d t) e := .inr ⟨t, by rw [h]⟩
noncomputable def TRowIn (tn : List (Addr × Obj)) (v : Value) (r : Row) : Prop :=
  ∃ T t1 Lw wv nn dv, v = .ref T ∧ (T, ({ cls := .type "tuple", data := .seq #[.str r.1 t1, .ref Lw, dv] } : Obj)) ∈ tn ∧ (Lw, listOf (List.toArray wv) nn) ∈ tn ∧ IntsAre wv r.2.1 ∧ IsV dv r.2.2
theorem TRowIn.intro {tn : List (Addr × Obj)} {r : Row} {T Lw : Addr} {t1 : Tok} {wv : List Value} {nn : Nat} {dv : Value} (h1 : (T, ({ cls := .type "tuple", data := .seq #[.str r.1 t1, .ref Lw, dv] } : Obj)) ∈ tn) (h2 : (Lw, listOf (List.toArray wv) nn) ∈ tn) (h3 : IntsAre wv r.2.1) (h4 : IsV dv r.2.2) : TRowIn tn (.ref T) r :=
  ⟨T, t1, Lw, wv, nn, dv, rfl, h1, h2, h3, h4⟩
theorem TRowIn.mono {a b : List (Addr × Obj)} {v : Value} {r : Row} (k : ∀ p ∈ a, p ∈ b) (h : TRowIn a v r) : TRowIn b v r := by
  obtain ⟨T, t1, Lw, wv, nn, dv, e1, e2, e3, e4, e5⟩ := h
  exact e1 ▸ TRowIn.intro (k _ e2) (k _ e3) e4 e5
theorem PairsIn.mono {a b : List (Addr × Obj)} {its : Array Value} {xs ys : List Int} (k : ∀ p ∈ a, p ∈ b) (h : PairsIn its xs ys a) : PairsIn its xs ys b := ⟨h.1, fun j hj => let ⟨T, t, u, e, f⟩ := h.2 j hj; ⟨T, t, u, e, k _ f⟩⟩
noncomputable def rows7 (a b m p q : Int) : List Row := [("ADD", [a, b], (a + b).fmod WORD), ("MUL", [a, b], (a * b).fmod WORD), ("SUB", [a, b], (a - b).fmod WORD), ("DIV", [a, b], if b = 0 then 0 else a.fdiv b), ("MOD", [a, b], if b = 0 then 0 else a.fmod b), ("SDIV", [a, b], sgnQuot a b), ("SMOD", [a, b], sgnRest a b), ("ADDMOD", [a, b, m], if m = 0 then 0 else (a + b).fmod m), ("MULMOD", [a, b, m], if m = 0 then 0 else (a * b).fmod m), ("EXP", [a, b], (a ^ b.toNat).fmod WORD), ("SIGNEXTEND", [q, a], if q ≥ 31 then a else if a.fmod (1 * 2 ^ (8 * q + 7).toNat + 1 * 2 ^ (8 * q + 7).toNat) ≥ 1 * 2 ^ (8 * q + 7).toNat then (a.fmod (1 * 2 ^ (8 * q + 7).toNat + 1 * 2 ^ (8 * q + 7).toNat) - 1 * 2 ^ (8 * q + 7).toNat - 1 * 2 ^ (8 * q + 7).toNat).fmod WORD else a.fmod (1 * 2 ^ (8 * q + 7).toNat + 1 * 2 ^ (8 * q + 7).toNat)), ("BYTE", [q, a], if q ≥ 32 then 0 else (a.fdiv (2 ^ (8 * (32 - 1 - q)).toNat)) % 256), ("SHL", [p, a], if p ≥ 256 then 0 else (a * 2 ^ p.toNat).fmod WORD), ("SHR", [p, a], if p ≥ 256 then 0 else a.fdiv (2 ^ p.toNat)), ("SAR", [p, a], ((withSign a).fdiv (2 ^ (if 256 < p then 256 else p).toNat)).fmod WORD)]
noncomputable def Dues (a b m p q x1 x2 x3 x4 x5 x6 x7 x10 : Int) : Prop := Is x1 (if b = 0 then 0 else a.fdiv b) ∧ Is x2 (if b = 0 then 0 else a.fmod b) ∧ Is x3 (sgnQuot a b) ∧ Is x4 (sgnRest a b) ∧ Is x5 (if p ≥ 256 then 0 else (a * 2 ^ p.toNat).fmod WORD) ∧ Is x6 (if p ≥ 256 then 0 else a.fdiv (2 ^ p.toNat)) ∧
  Is x7 (((withSign a).fdiv (2 ^ (if 256 < p then 256 else p).toNat)).fmod WORD) ∧ Is x10 (if q ≥ 32 then 0 else (a.fdiv (2 ^ (8 * (32 - 1 - q)).toNat)) % 256)
theorem dues_of {a b m p q x1 x2 x3 x4 x5 x6 x7 x10 : Int} (ha0 : 0 ≤ a) (ha1 : a < WORD) (hb0 : 0 ≤ b) (hp0 : 0 ≤ p) (hq0 : 0 ≤ q) (e1 : Is x1 (if b = 0 then 0 else a / b)) (e2 : Is x2 (if b = 0 then 0 else a % b)) (e3 : Is x3 (sgnParts a b).1) (e4 : Is x4 (sgnParts a b).2)
    (e5 : Is x5 (wt ((List.replicate (if p < 256 then p else 256).toNat 0 ++ bitsN a 256).take 256))) (e6 : Is x6 (wt ((bitsN a 256).drop (if p < 256 then p else 256).toNat))) (e7 : Is x7 (wt ((bitsN a 256).drop (if p < 256 then p else 256).toNat ++ List.replicate (if p < 256 then p else 256).toNat ((bitsN a 256).getD 255 0))))
    (e10 : Is x10 (if q < 32 then (digits (bitsN a 256)).getD q.toNat 0 else 0)) : Dues a b m p q x1 x2 x3 x4 x5 x6 x7 x10 := by
  unfold Is at e1 e2 e3 e4 e5 e6 e7 e10
  refine ⟨e1.trans (row_div hb0), e2.trans (row_mod hb0), e3.trans (row_sdiv a b), e4.trans (row_smod a b), e5.trans (row_shl hp0), e6.trans (row_shr ha0 ha1 hp0), e7.trans (row_sar ha0 ha1 hp0), e10.trans ?_⟩
  by_cases h : q < 32
  · rw [if_pos h, if_neg (by (first | lia | omega))]; exact row_byte hq0 h
  · rw [if_neg h, if_pos (by (first | lia | omega))]
noncomputable def rows10 (a b : Int) : List Row := [("LT", [a, b], if decide (a < b) = true then 1 else 0), ("GT", [a, b], if decide (b < a) = true then 1 else 0), ("EQ", [a, b], if (a == b) = true then 1 else 0), ("SLT", [a, b], if decide (withSign a < withSign b) = true then 1 else 0), ("SGT", [a, b], if decide (withSign b < withSign a) = true then 1 else 0), ("ISZERO", [a], if (a == 0) = true then 1 else 0), ("AND", [a, b], Builtin.bitAnd a b), ("OR", [a, b], Builtin.bitOr a b), ("XOR", [a, b], Builtin.bitXor a b), ("NOT", [a], WORD - 1 - a)]
noncomputable def Offs (tl rl pl lb : Addr) (tn : List (Addr × Obj)) : Prop := AllNe tl [(rl, (default : Obj)), (pl, default), (lb, default)] ∧ AllNe tl tn
theorem allNe_lt {d : Addr} : ∀ {l : List (Addr × Obj)}, AllLt d l → AllNe d l
  | [], _ => trivial
  | _ :: _, h => ⟨Nat.ne_of_lt h.1, allNe_lt h.2⟩
theorem Offs.lt {tl rl pl lb lo : Addr} {tn : List (Addr × Obj)} (h : @LT.lt Nat _ rl tl ∧ @LT.lt Nat _ pl tl ∧ @LT.lt Nat _ lb tl ∧ @LT.lt Nat _ lo tl ∧ AllLt tl tn) : Offs tl rl pl lb tn :=
  ⟨⟨Nat.ne_of_lt h.1, Nat.ne_of_lt h.2.1, Nat.ne_of_lt h.2.2.1, trivial⟩, allNe_lt h.2.2.2.2⟩
theorem isv_eq {a b : Int} (ha0 : 0 ≤ a) (ha1 : a < WORD) (hb0 : 0 ≤ b) (hb1 : b < WORD) : IsV (.bool (decide (bitsN a 256 = bitsN b 256))) (if (a == b) = true then 1 else 0) := IsV.b (by
  show decide _ = _
  rw [Bool.eq_iff_iff, decide_eq_true_iff, beq_iff_eq]
  exact bitsN_inj ha0 ha1 hb0 hb1)
theorem isv_lt {x y a b : Int} (h : Is x a) (k : Is y b) : IsV (.bool (decide (x < y))) (if decide (a < b) = true then 1 else 0) := IsV.b (by unfold Is at h k; rw [h, k]; rfl)
theorem isv_zero {a : Int} (ha0 : 0 ≤ a) (ha1 : a < WORD) : IsV (.bool (!(bitsN a 256).any fun x => x == 1)) (if (a == 0) = true then 1 else 0) := IsV.b (by
  show (!_) = _
  rw [Bool.eq_iff_iff, Bool.not_eq_true', beq_iff_eq]
  have q := row_iszero ha0 ha1
  constructor
  · intro h
    refine Classical.byContradiction fun hn => ?_
    rw [List.any_eq_false] at h
    exact h 1 (q.mpr hn) (by decide)
  · intro h
    rw [List.any_eq_false]
    intro x hx hx1
    rw [beq_iff_eq.mp hx1] at hx
    exact q.mp hx h)
section
variable {prog : Program} {w : World} {A : Around} {E : Value → Shared → Prop} {s : Shared} {g : Heap} {L tl : Addr} {m : Str → Option Value} {tv : List Value} {n : Nat} {hd tn tn1 : List (Addr × Obj)} {v : Value} {r : Row} {Q : Value → Shared → Prop}
theorem trows_refs {rs : List Row} (h : RowsG (TRowIn tn) tv rs) (ws : List Int) (k : 0 < rs.length) : ¬ IntsAre tv ws := by
  cases tv with
  | nil => cases rs with
    | nil => cases k
    | cons _ _ => exact h.elim
  | cons x r => cases rs with
    | nil => exact h.elim
    | cons y q =>
      obtain ⟨⟨T, t1, Lw, wv, nn, dv, e, _⟩, _⟩ := h
      subst e
      intro hi; cases hi
theorem allNe_append {d : Addr} {xs ys : List (Addr × Obj)} (h : AllNe d xs) (k : AllNe d ys) : AllNe d (xs ++ ys) := allNe_of fun p hp => (List.mem_append.mp hp).elim (allNe_to h p) (allNe_to k p)
theorem append_row {rs : List Row} (F : Fr g L s.heap m) (N : News g L s.heap ((tl, listOf tv.toArray n) :: (hd ++ tn1))) (hS : ∀ p ∈ tn, p ∈ tn1) (hne : AllNe tl hd) (hnt : AllNe tl tn) (R : TRowIn tn1 v r) (ht : RowsG (TRowIn tn) tv rs) (hk : 0 < rs.length) (hsz : tv.length ≤ 100)
    (h : ∀ h' tn', Fr g L h' m → News g L h' ((tl, listOf (tv ++ [v]).toArray (n + 1)) :: (hd ++ tn')) → (∀ p ∈ tn, p ∈ tn') → AllNe tl tn' → TRowIn tn' v r → Q .none { s with heap := h' }) : wpAny (model prog w) A (call (.builtin "list.append") [.ref tl, v]) Q E s := by
  have z0 := N _ (.head _)
  refine append_at (hsz := by rw [List.size_toArray, sizeLine_eq]; (first | lia | omega)) z0.1 fun h' hs hD => ?_
  obtain ⟨T, t1, Lw, wv, nn, dv, e1, e2, e3, e4, e5⟩ := R
  have zT := N _ (.tail _ (List.mem_append.mpr (.inr e2)))
  have zL := N _ (.tail _ (List.mem_append.mpr (.inr e3)))
  have neT : @Ne Nat T tl := fun q => by
    have h9 := zT.1; dsimp only at h9; rw [q, z0.1] at h9; exact absurd (Value.type.inj (congrArg Obj.cls (Option.some.inj h9))) (by decide)
  have neL : @Ne Nat Lw tl := fun q => by
    have h9 := zL.1; dsimp only at h9; rw [q, z0.1] at h9
    have h8 : tv.toArray = wv.toArray := by
      have := Option.some.inj h9
      exact (Data.seq.inj (congrArg Obj.data this)).1
    have h7 : tv = wv := by simpa using h8
    exact trows_refs ht _ hk (h7 ▸ e4)
  have hnt' : AllNe tl ((T, ({ cls := .type "tuple", data := .seq #[.str r.1 t1, .ref Lw, dv] } : Obj)) :: (Lw, listOf (List.toArray wv) nn) :: tn) := ⟨neT, neL, hnt⟩
  refine h h' _ (F.change hs z0.2.1 z0.2.2) (fun p hp => ?_) (fun p hp => .tail _ (.tail _ hp)) hnt' (e1 ▸ TRowIn.intro (.head _) (.tail _ (.head _)) e4 e5)
  rcases List.mem_cons.mp hp with rfl | hp
  · exact ⟨by rw [hD]; simp, z0.2⟩
  · have key : p ∈ hd ++ tn1 ∧ @Ne Nat p.1 tl := by
      rcases List.mem_append.mp hp with hp | hp
      · exact ⟨List.mem_append.mpr (.inl hp), allNe_to hne p hp⟩
      · refine ⟨List.mem_append.mpr (.inr ?_), allNe_to hnt' p hp⟩
        rcases List.mem_cons.mp hp with rfl | hp
        · exact e2
        · rcases List.mem_cons.mp hp with rfl | hp
          · exact e3
          · exact hS p hp
    have z := N p (.tail _ key.1)
    exact ⟨hs.extBut _ _ key.2 z.1, z.2⟩
end
theorem RowsG.get {P : Value → Row → Prop} : ∀ {vs : List Value} {rs : List Row} {i : Nat} {v : Value}, RowsG P vs rs → vs[i]? = some v → ∃ r, rs[i]? = some r ∧ P v r
  | [], _, _, _, _, e => nomatch e
  | _ :: _, [], _, _, h, _ => h.elim
  | x :: _, r :: _, 0, v, h, e => ⟨r, rfl, by cases e; exact h.1⟩
  | _ :: _, _ :: _, i + 1, v, h, e => h.2.get (i := i) e
theorem rowsG_of {P : Value → Row → Prop} : ∀ {vs : List Value} {rs : List Row}, vs.length = rs.length → (∀ (i : Nat) (r : Row), rs[i]? = some r → ∃ v, vs[i]? = some v ∧ P v r) → RowsG P vs rs
  | [], [], _, _ => trivial
  | [], _ :: _, e, _ => nomatch e
  | _ :: _, [], e, _ => nomatch e
  | x :: vs, r :: rs, e, h => ⟨by obtain ⟨v, e', p⟩ := h 0 r rfl; cases e'; exact p, rowsG_of (Nat.succ.inj e) fun i q hq => h (i + 1) q hq⟩
noncomputable def TPost (g : Heap) (C D : Addr) (s : Shared) (zs : List Value) (ep : Nat) (own : List (Addr × Obj)) (nm : Str) (Lw : Addr) (d : Int) (y : Value) (s₃ : Shared) : Prop :=
  ∃ h' tk' m' T' t1 t2 t3, s₃ = { s with heap := h', toks := tk' } ∧ y = .ref T' ∧ Fr g C h' m' ∧ News g C h' ((T', ({ cls := .type "tuple", data := .seq #[.str nm t1, .ref Lw, .int d t2, .int d t3] } : Obj)) :: (D, listOf zs.toArray ep) :: own) ∧ AllNe T' ((D, listOf zs.toArray ep) :: own)
theorem TPost.intro {g : Heap} {C D T' Lw : Addr} {s : Shared} {zs : List Value} {ep : Nat} {own : List (Addr × Obj)} {nm : Str} {d d' d'' : Int} {h' : Heap} {tk : Nat} {m' : Str → Option Value} {news : List (Addr × Obj)} {t1 t2 t3 : Tok} (F : Fr g C h' m') (N : News g C h' news) (hm : (T', ({ cls := .type "tuple", data := .seq #[.str nm t1, .ref Lw, .int d' t2, .int d'' t3] } : Obj)) ∈ news) (hs : ∀ p ∈ (D, listOf zs.toArray ep) :: own, p ∈ news)
    (ne : AllLt T' ((D, listOf zs.toArray ep) :: own)) (e1 : d' = d) (e2 : d'' = d) : TPost g C D s zs ep own nm Lw d (.ref T') { s with heap := h', toks := tk } :=
  ⟨h', tk, m', T', t1, t2, t3, rfl, rfl, F, fun p hp => N p (by
    rcases List.mem_cons.mp hp with rfl | hp
    · subst e1 e2; exact hm
    · exact hs p hp), allNe_lt ne⟩
section
variable {prog : Program} {w : World} {A : Around} {E : Value → Shared → Prop} {env : Env} {h₀ : Heap} {L : Addr} {m : Str → Option Value}
theorem compTrip {elt iter : Expr} {x x₂ x₃ : Str} {px px₂ px₃ tp : Pos} {k} {scope : Scope} {cl : List (Str × Addr)} {pos : Pos} {s : Shared} {tl : Addr} {tv : List Value} {c : Nat} {rs : List Row} {tn news : List (Addr × Obj)} {Q : Value → Shared → Prop}
    (F : Fr h₀ L s.heap m) (N : News h₀ L s.heap news) (hh : A.handled = none) (hm : (tl, listOf tv.toArray c) ∈ news) (htn : ∀ p ∈ tn, p ∈ news) (hT : RowsG (TRowIn tn) tv rs) (hsz : rs.length ≤ sizeLine)
    (hcell : ∀ y ∈ scope.names, y.2 ≠ .cell) (hkind : scope.kind = .function) (hx : scope.names.lookup x = some .local) (hx₂ : scope.names.lookup x₂ = some .local) (hx₃ : scope.names.lookup x₃ = some .local) (h12 : x ≠ x₂) (h13 : x ≠ x₃) (h23 : x₂ ≠ x₃)
    (helt : ∀ (g : Heap) nm Lw d dv t1 C D (zs : List Value) ep own h tk m' E', Ext h₀ g → IsV dv d → m' x = some (.str nm t1) → m' x₂ = some (.ref Lw) → m' x₃ = some dv → Fr g C h m' → News g C h ((D, listOf zs.toArray ep) :: own) → (∀ p ∈ own, p.1 ≠ D) →
      wpAny (model prog w) A (eval elt (compEnvC scope cl C env)) (TPost g C D s zs ep own nm Lw d) E' { s with heap := h, toks := tk })
    (done : ∀ D h' tk (zs : List Value) ep ac, Fr h₀ L h' m → News h₀ L h' ((D, listOf zs.toArray ep) :: (news ++ ac)) → RowsG (RowIn (news ++ ac)) zs rs → Q (.ref D) { s with heap := h', toks := tk }) :
    wpAny (model prog w) A (pyIter (.ref tl)) (fun it s₂ => wpAny (model prog w) A (newList []) (fun acc s₃ => wpAny (model prog w) A (newFunctionEnv scope env.globals cl [] env.qual none .none (some env)) (fun cenv s₄ =>
      codeAny (model prog w) A (.compStart (.ListComp elt [⟨.Tuple [.Name x px, .Name x₂ px₂, .Name x₃ px₃] k tp, iter, [], 0⟩] scope pos) 0 it acc { cenv with scope := relabel scope env }) (compPost (model prog w) A E none Q acc cenv.locals) s₄) E s₃) E s₂) E s := by
  have hl : s.heap.IsList tl tv.toArray := ⟨_, (N _ hm).1, rfl, c, rfl⟩
  have hlt : tl < s.heap.objs.size := Heap.lt_size (N _ hm).1
  have hlen := hT.length
  refine wpAny_pyIter_list hl ?_
  have up : ∀ b o, s.heap.get? b = some o → (s.heap.push { cls := .type "list_iterator", data := .fields #[.ref tl, .int 0 0] }).get? b = some o := fun b o e => Heap.get?_push_of_some _ e
  have off : ∀ b o, s.heap.get? b = some o → b ∉ [s.heap.objs.size] := fun b o e hm => by
    rw [List.mem_singleton.mp hm] at e
    exact absurd (Heap.lt_size e) (Nat.lt_irrefl _)
  have kk : Ext s.heap (hideAll (s.heap.push { cls := .type "list_iterator", data := .fields #[.ref tl, .int 0 0] }) [s.heap.objs.size]) := fun b o e => hideAll_get _ (up b o e) (off b o e)
  have ref_of : ∀ (i : Nat) (v : Value), tv.toArray[i]? = some v → ∃ r, rs[i]? = some r ∧ TRowIn tn v r := fun i v e => hT.get (by simpa using e)
  refine compKT (I := s.heap.objs.size) (ax := tl) (items := tv.toArray) hh (Nat.ne_of_lt hlt) (by rw [List.size_toArray, hlen]; exact hsz)
    (fun i y ac => ∃ r T' t1 Lw t2 t3, rs[i]? = some r ∧ y = .ref T' ∧ (T', ({ cls := .type "tuple", data := .seq #[.str r.1 t1, .ref Lw, .int r.2.2 t2, .int r.2.2 t3] } : Obj)) ∈ ac ∧ ∃ wv nn, (Lw, listOf (List.toArray wv) nn) ∈ tn ∧ IntsAre wv r.2.1)
    (fun i m' => ∃ r t1 Lw dv, rs[i]? = some r ∧ m' x = some (.str r.1 t1) ∧ m' x₂ = some (.ref Lw) ∧ m' x₃ = some dv ∧ IsV dv r.2.2 ∧ ∃ wv nn, (Lw, listOf (List.toArray wv) nn) ∈ tn ∧ IntsAre wv r.2.1)
    (fun i y a b hab h => h.imp fun r h => h.imp fun T' h => h.imp fun t1 h => h.imp fun Lw h => h.imp fun t2 h => h.imp fun t3 z => ⟨z.1, z.2.1, hab _ z.2.2.1, z.2.2.2⟩) hcell hkind ⟨⟨_, Heap.get?_push_size _ rfl, rfl, rfl⟩, hl.push _⟩ ?_ ?_ ?_ ?_
  · intro i v e
    obtain ⟨r, _, T, _, _, _, _, _, e', _⟩ := ref_of i v e
    exact ⟨T, e'⟩
  · intro i v C h tk m' Q' E' e F' hQ'
    refine nameP ?_
    intro GG
    obtain ⟨r, hr, T, t1, Lw, wv, nn, dv, e1, e2, e3, e4, e5⟩ := ref_of i v e
    unfold GG
    clear GG
    subst e1
    refine asgTrip hh hkind hx hx₂ hx₃ F' (kk _ _ (N _ (htn _ e2)).1) fun h' tk' F'' k' => hQ' h' tk' _ F'' ⟨r, t1, Lw, dv, hr, ?_, ?_, ?_, e5, wv, nn, e3, e4⟩ k'
    · rw [if_neg h13, if_neg h12, if_pos rfl]
    · rw [if_neg h23, if_pos rfl]
    · rw [if_pos rfl]
  · intro i C D zs ep oI ac h tk m' E' hi hI9 F' N' hA hDI
    refine nameP ?_
    intro GG
    obtain ⟨r, t1, Lw, dv, hr, m1, m2, m3, hv, hw⟩ := hI9
    unfold GG
    clear GG
    refine wpAny_mono (helt _ r.1 Lw r.2.2 dv t1 C D zs ep ((s.heap.objs.size, oI) :: ac) h tk m' E' (fun b o e => kk b o (F.keep b o e)) hv m1 m2 m3 F' N' (fun p hp => ?_)) (fun y s₃ q => ?_) fun _ _ q => q
    · rcases List.mem_cons.mp hp with rfl | hp
      · exact fun q => hDI q.symm
      · exact (hA p hp).1
    · refine nameP ?_
      intro GG
      obtain ⟨h', tk', m'', T', u1, u2, u3, e, ey, F'', N'', ne⟩ := q
      unfold GG
      clear GG
      refine ⟨h', tk', m'', (T', _) :: ac, e, F'', fun p hp => N'' p ?_, fun p hp => ?_, fun p hp => .tail _ hp, r, T', u1, Lw, u2, u3, hr, ey, .head _, hw⟩
      · rcases List.mem_cons.mp hp with rfl | hp
        · exact .tail _ (.head _)
        · rcases List.mem_cons.mp hp with rfl | hp
          · exact .tail _ (.tail _ (.head _))
          · rcases List.mem_cons.mp hp with rfl | hp
            · exact .head _
            · exact .tail _ (.tail _ (.tail _ hp))
      · rcases List.mem_cons.mp hp with rfl | hp
        · exact ⟨Ne.symm ne.1, Ne.symm ne.2.1⟩
        · exact hA p hp
  · intro D h' tk zs ep ac hnone hD hlen' hys hac hk
    have k : ∀ b o, s.heap.get? b = some o → h'.get? b = some o := fun b o e => hk b o (by simpa using off b o e) (up b o e)
    have hDn : s.heap.get? D = none := by
      cases e : s.heap.get? D with
      | none => rfl
      | some o => have := up D o e; rw [hnone] at this; cases this
    have N1 := news_new F N k hDn hD
    rw [List.size_toArray, hlen] at hlen' hys
    have F' := fr_ext F k
    refine done D h' tk zs ep ac F' (fun p hp => ?_) (rowsG_of hlen' fun i r hr => ?_)
    · rcases List.mem_cons.mp hp with rfl | hp
      · exact N1 _ (.head _)
      · rcases List.mem_append.mp hp with hp | hp
        · exact N1 _ (.tail _ hp)
        · have z := hac p hp
          have z2 : s.heap.get? p.1 = none := by
            cases e : s.heap.get? p.1 with
            | none => rfl
            | some o => have := up p.1 o e; rw [z.2.1] at this; cases this
          refine ⟨z.1, fun q => ?_, ?_⟩
          · obtain ⟨oL, _, _, hL, _⟩ := F.ns
            rw [q, hL] at z2; cases z2
          · cases e : h₀.get? p.1 with
            | none => rfl
            | some o => have := F.keep _ _ e; rw [z2] at this; cases this
    · obtain ⟨y, hy, r', T', u1, Lw, u2, u3, e1, e2, e3, wv, nn, e4, e5⟩ := hys i (List.getElem?_eq_some_iff.mp hr).1
      rw [hr] at e1
      cases e1
      exact ⟨y, hy, e2 ▸ RowIn.intro (List.mem_append.mpr (.inr e3)) (List.mem_append.mpr (.inl (htn _ e4))) e5 rfl⟩
end
noncomputable def PRows (rs : List Row) : Heap → Heap → Value → Prop := fun h h' v => ∃ l vs n tn, v = .ref l ∧ h.get? l = none ∧ h'.get? l = some (listOf (List.toArray vs) n) ∧ (∀ p ∈ tn, h'.get? p.1 = some p.2 ∧ h.get? p.1 = none) ∧ RowsG (RowIn tn) vs rs
theorem RowsG.append {P : Value → Row → Prop} : ∀ {vs ws : List Value} {rs qs : List Row}, RowsG P vs rs → RowsG P ws qs → RowsG P (vs ++ ws) (rs ++ qs)
  | [], _, [], _, _, k => k
  | _ :: _, _, _ :: _, _, h, k => ⟨h.1, h.2.append k⟩
  | [], _, _ :: _, _, h, _ => h.elim
  | _ :: _, _, [], _, h, _ => h.elim
theorem PRows.of {g h : Heap} {L l : Addr} {rs qs : List Row} {vs ws : List Value} {n : Nat} {o : Obj} {news tn tn2 : List (Addr × Obj)} (N : News g L h news) (hm : (l, o) ∈ news) (ho : o = listOf (List.toArray (vs ++ ws)) n) (h1 : ∀ p ∈ tn, p ∈ news) (h2 : ∀ p ∈ tn2, p ∈ news) (hv : RowsG (RowIn tn) vs rs) (hw : RowsG (RowIn tn2) ws qs) : PRows (rs ++ qs) g h (.ref l) :=
  ⟨l, vs ++ ws, n, news, rfl, (N _ hm).2.2, ho ▸ (N _ hm).1, fun p hp => ⟨(N p hp).1, (N p hp).2.2⟩, (hv.mono fun _ _ z => z.mono h1).append (hw.mono fun _ _ z => z.mono h2)⟩

end RdfS
section RoS
theorem reg52 : True := by
  k_with "call ref" => ((k_here; (fail_if_success (fail_if_success (with_reducible show wpAny _ _ (call (Value.ref 56) _) _ _ _))); k_dflt (refine' Spec.useI (address_of_spec _ _) ?kR ?kF ?kN ?kX ?kT ?kp ?kk ?_; k_extra "my std"; (case kk => decide); k_whole); intro t' h' tk' F' N'; (try k_sweep)))
  k_with "call ref" => ((k_here; (fail_if_success (fail_if_success (with_reducible show wpAny _ _ (call (Value.ref 618) _) _ _ _))); k_dflt (refine' Spec.useI (law_weight_spec _ _) ?kR ?kF ?kN ?kX ?kT ?kp ?kk ?_; k_extra "my std"; (case kk => decide); k_whole); intro t' h' tk' F' N'; (try k_sweep)))
  k_with "call ref" => ((k_here; (fail_if_success (fail_if_success (with_reducible show wpAny _ _ (call (Value.ref 632) _) _ _ _))); k_dflt (refine' Spec.useT (law_parted_spec _ _ _ _ ?s0 ?s1 ?s2) ?kR ?kF ?kN ?kX ?kT ?kp ?kk ?_; k_extra "my std"; (case s0 => k_extra "my arg"); (case s1 => k_extra "my arg"); (case s2 => k_extra "my arg"); (case kk => decide); k_whole); intro l' t' u' h' tk' ns' F' N' l1; (try (dsimp only [AllNe] at l1)); (try k_sweep)))
  k_with "call ref" => ((k_here; (fail_if_success (fail_if_success (with_reducible show wpAny _ _ (call (Value.ref 564) _) _ _ _))); k_dflt (refine' Spec.useI (law_WORD_spec) ?kR ?kF ?kN ?kX ?kT ?kp ?kk ?_; k_extra "my std"; (case kk => decide); k_whole); intro t' h' tk' F' N'; (try k_sweep)))
  k_with "call ref" => ((k_here; (fail_if_success (fail_if_success (with_reducible show wpAny _ _ (call (Value.ref 639) _) _ _ _))); k_dflt (refine' Spec.useI (law_left_spec _ _ _ _ ?s0 ?s1 ?s2) ?kR ?kF ?kN ?kX ?kT ?kp ?kk ?_; k_extra "my std"; (case s0 => k_extra "my arg"); (case s1 => k_extra "my arg"); (case s2 => k_extra "my arg"); (case kk => decide); k_whole); intro t' h' tk' F' N'; (try k_sweep)))
  k_with "call ref" => ((k_here; (fail_if_success (fail_if_success (with_reducible show wpAny _ _ (call (Value.ref 646) _) _ _ _))); k_dflt (refine' Spec.useI (law_led_spec _ _ ?s0) ?kR ?kF ?kN ?kX ?kT ?kp ?kk ?_; k_extra "my std"; (case s0 => k_extra "my arg"); (case kk => decide); k_whole); intro t' h' tk' F' N'; (try k_sweep)))
  k_with "my bits" => (first | exact two255 | exact Bits.small (by with_reducible assumption) _)
  k_with "my arg" => (first | with_reducible assumption | k_extra "my om" | exact bits_zsub (by k_extra "my arg") | exact bits_edv (by k_extra "my arg") (by k_extra "my om") (by k_extra "my om") | exact bits_emd (by k_extra "my arg") (by k_extra "my om") (by k_extra "my om") | decide | assumption)
  k_with "my pre" => (first | exact ⟨IsL.ofOld (by k_asm) (by with_reducible assumption), by with_reducible assumption⟩ | (refine ⟨?_, ?_⟩ <;> first | (k_extra "my list") | (k_extra "my len")))
  k_with "call ref" => ((k_here; (fail_if_success (fail_if_success (with_reducible show wpAny _ _ (call (Value.ref 611) _) _ _ _))); k_dflt (refine' Spec.useL (law_bits_specN _ _) ?kR ?kF ?kN ?kX ?kT ?kp ?kk ?_; k_extra "my std"; (case kk => decide); k_whole); intro l' vs' nn' h' tk' ns' F' N' i' e' l1; (try (dsimp only [AllNe] at l1)); (try k_sweep)))
  k_with "call ref" => ((k_here; (fail_if_success (fail_if_success (with_reducible show wpAny _ _ (call (Value.ref 625) _) _ _ _))); k_dflt (refine' Spec.useI (law_signed_specN _ _ ?s0 ?s1) ?kR ?kF ?kN ?kX ?kT ?kp ?kk ?_; k_extra "my std"; (case s0 => k_extra "my arg"); (case s1 => k_extra "my arg"); (case kk => decide); k_whole); intro t' h' tk' F' N'; (try k_sweep)))
  k_with "call ref" => ((k_here; (fail_if_success (fail_if_success (with_reducible show wpAny _ _ (call (Value.ref 653) _) _ _ _))); k_dflt (refine' Spec.useI (law_power_spec _ _ _ _ ?s0 ?s1 ?s2) ?kR ?kF ?kN ?kX ?kT ?kp ?kk ?_; k_extra "my std"; (case s0 => k_extra "my arg"); (case s1 => k_extra "my arg"); (case s2 => k_extra "my arg"); (case kk => decide); k_whole); intro t' h' tk' F' N'; (try k_sweep)))
  k_with "call ref" => ((k_here; (fail_if_success (fail_if_success (with_reducible show wpAny _ _ (call (Value.ref 679) _) _ _ _))); k_dflt (refine' Spec.useI (law_widened_spec _ _ _ _ ?s0 ?s1) ?kR ?kF ?kN ?kX ?kT ?kp ?kk ?_; k_extra "my std"; (case s0 => k_extra "my arg"); (case s1 => k_extra "my arg"); (case kk => decide); k_whole); intro t' h' tk' F' N'; (try k_sweep)))
  k_with "call ref" => ((k_here; (fail_if_success (fail_if_success (with_reducible show wpAny _ _ (call (Value.ref 660) _) _ _ _))); k_dflt (refine' Spec.useT (law_signed_parts_spec _ _ _ _ ?s0 ?s1 ?s2 ?s3) ?kR ?kF ?kN ?kX ?kT ?kp ?kk ?_; k_extra "my std"; (case s0 => k_extra "my arg"); (case s1 => k_extra "my arg"); (case s2 => k_extra "my arg"); (case s3 => k_extra "my arg"); (case kk => decide); k_whole); intro l' t' u' h' tk' ns' F' N' l1; (try (dsimp only [AllNe] at l1)); (try k_sweep)))
  k_with "call ref" => ((k_here; (fail_if_success (fail_if_success (with_reducible show wpAny _ _ (call (Value.ref 672) _) _ _ _))); k_dflt (refine' Spec.useT3 (law_moved_spec _ _ _ _ ?s0 ?s1) ?kR ?kF ?kN ?kX ?kT ?kp ?kk ?_; k_extra "my std"; (case s0 => k_extra "my arg"); (case s1 => k_extra "my arg"); (case kk => decide); k_whole); intro l' t' u' r' h' tk' ns' F' N' l1; (try (dsimp only [AllNe] at l1)); (try k_sweep)))
  k_with "my arg" => (first | with_reducible assumption | exact bitsN_Bits _ _ | k_extra "my om" | assumption)
  k_with "eval Name" => ((k_here; (with_reducible show wpAny _ _ (eval (Expr.Name _ _) (compEnvC _ _ _ _)) _ _ _); k_dflt (first
  | (refine' cn_own ?zqF ?zqm ?_ ?zqa ?zqb; (case zqF => k_asm); (case zqm => with_reducible assumption); (case zqa => rfl); (case zqb => rfl))
  | (refine' cn_cell ?zqF ?zqc ?zqg ?zqd ?_ ?zqa ?zqb; (case zqF => k_asm); (case zqc => first | with_reducible exact cl_hd | rfl); (case zqg => with_reducible assumption); (case zqd => with_reducible assumption); (case zqa => rfl); (case zqb => rfl)))))
  k_with "my nt" => (repeat' (first | (k_unfold; (try dsimp only)) | (k_extra "my name") | (k_extra "no tuple"; walk1) | (k_extra "no tuple"; dsimp only; walk1) | fail "no step"))
  k_with "no tuple" => ((fail_if_success (with_reducible show wpAny _ _ (eval (Expr.Tuple _ _ _) _) _ _ _)))
  k_with "no append" => ((fail_if_success (with_reducible show wpAny _ _ (call (Value.builtin _) _) _ _ _)))
  k_with "my na" => (repeat' (first | (k_unfold; (try dsimp only)) | (k_extra "my name") | (k_extra "no append"; walk1) | (k_extra "no append"; dsimp only; walk1) | fail "no step"))
  k_with "my len" => (first | k_extra "my om" | ((simp only [List.length_take, List.length_drop, List.length_append, List.length_replicate, List.length_reverse, List.length_cons, List.length_nil, List.length_map, List.length_zip]); k_extra "my om"))
  k_with "call ref" => ((k_here; (fail_if_success (fail_if_success (with_reducible show wpAny _ _ (call (Value.ref 665) _) _ _ _))); k_dflt (refine' Spec.useLD (law_digits_specD _ _) ?kR ?kF ?kN ?kX ?kT ?kp ?kk ?_; k_extra "my std"; (case kk => decide); k_whole); intro dg' hg' hd' l' vs' nn' h' tk' F' N' i' e' l1; (try (dsimp only [AllNe] at l1)); (try k_sweep)))
  k_with "my is" => ((dsimp only; (repeat' (first | with_reducible assumption | exact Is.mk rfl | with_reducible refine And.intro ?_ ?_ | exact is_dig (by assumption) (by assumption) | exact Is.mk (if_pos (by first | assumption | k_extra "my om")).symm | exact Is.mk (if_neg (by first | assumption | k_extra "my om")).symm))))
  k_with "my row" => ((refine' RowIn.intro ?r1 ?r2 ?r3 ?r4; (case r1 => k_memK); (case r2 => k_memK); (case r3 => l_ints); (case r4 => first | with_reducible assumption | exact Is.mk rfl | exact Is.mk (fmodW _).symm | exact Is.mk (row_mod (by assumption)) | exact Is.mk (row_ext (by assumption) (by assumption) (by assumption)))))
  k_with "compareOp Lt ref ref" => ((k_here; (with_reducible show wpAny _ _ (compareOp CmpOp.Lt (Value.ref _) (Value.ref _)) _ _ _); k_dflt (refine' cmp_ints_lt ?zqN ?zql ?zqb ?zqi ?zqj ?zqe ?zqu ?_; (case zqN => k_asm); (case zql => k_memK); (case zqb => k_memK); (case zqi => l_ints); (case zqj => l_ints); (case zqe => (rw [List.length_reverse, List.length_reverse, len_bits, len_bits])); (case zqu => exact room_eq (by assumption)); k_whole)))
  k_with "compareOp Gt ref ref" => ((k_here; (with_reducible show wpAny _ _ (compareOp CmpOp.Gt (Value.ref _) (Value.ref _)) _ _ _); k_dflt (refine' cmp_ints_gt ?zqN ?zql ?zqb ?zqi ?zqj ?zqe ?zqu ?_; (case zqN => k_asm); (case zql => k_memK); (case zqb => k_memK); (case zqi => l_ints); (case zqj => l_ints); (case zqe => (rw [List.length_reverse, List.length_reverse, len_bits, len_bits])); (case zqu => exact room_eq (by assumption)); k_whole)))
  k_with "my trow" => ((refine' TRowIn.intro ?r1 ?r2 ?r3 ?r4; (case r1 => k_memK); (case r2 => k_memK); (case r3 => l_ints); (case r4 => first | exact IsV.b (by assumption) | exact IsV.i (by with_reducible assumption) | exact IsV.i rfl | exact isv_eq (by assumption) (by assumption) (by assumption) (by assumption) | exact isv_lt (by assumption) (by assumption) | exact isv_zero (by assumption) (by assumption))))
  k_with "my cut row" => (((k_extra "my words"); ((rename Fr _ _ _ _ => FB)); ((rename News _ _ _ _ => NB)); (refine' RPost.intro FB NB ?p1 ?p2 ?p3); (case p1 => k_extra "my led"); (case p2 => (intro p9 h9; k_extra "my own")); (case p3 => k_extra "my row")))
  k_with "my cut trow" => (((k_extra "my words"); ((rename Fr _ _ _ _ => FB)); ((rename News _ _ _ _ => NB)); (refine' RPost.intro FB NB ?p1 ?p2 ?p3); (case p1 => k_extra "my led"); (case p2 => (intro p9 h9; k_extra "my own")); (case p3 => k_extra "my trow")))
  trivial
theorem law_rows_spec {w : World} (a b m p q : Int) (t1 t2 t3 t4 t5 : Tok) (ha0 : 0 ≤ a) (ha1 : a < WORD) (hb0 : 0 ≤ b) (hb1 : b < WORD) (hm0 : 0 ≤ m) (hm1 : m < WORD) (hp0 : 0 ≤ p) (hq0 : 0 ≤ q) : Spec w 6 691 [.int a t1, .int b t2, .int m t3, .int p t4, .int q t5] (fun _ => True) (PRows (rows7 a b m p q ++ rows10 a b)) := by
  intro s Q E dp un gd outer hR hX hP hQ
  have bbA := bits_of_word ha0 ha1
  have bbB := bits_of_word hb0 hb1
  have bA' : Builtin.Int.intBits a ≤ 1024 := by omega
  have bB' : Builtin.Int.intBits b ≤ 1024 := by omega
  have lgB := log_of_bits bbB (by omega)
  have lgS := log_of_sgn hb0 hb1
  have la := len_bits a
  have lb0 := len_bits b
  ktr_call [(Str.ofString "a", .int a t1), (Str.ofString "b", .int b t2), (Str.ofString "m", .int m t3), (Str.ofString "by", .int p t4), (Str.ofString "place", .int q t5)] hR
  rename Top _ _ _ _ _ _ => T
  rename Frag.In _ s.heap => X
  rename Fr _ _ _ _ => F0
  rename News _ _ _ _ => N0
  refine' seqS (σ := Rs0) F0 (fun c => ([("a", .int a t1), ("b", .int b t2), ("m", .int m t3), ("by", .int p t4), ("place", .int q t5), ("bits", .ref c.lb), ("other_bits", .ref c.lo)], [(c.lb, listOf c.vb.toArray c.nb), (c.lo, listOf c.vo.toArray c.no)])) (fun c => IntsAre c.vb (bitsN a 256) ∧ IntsAre c.vo (bitsN b 256)) ?st0 ?_
  case st0 =>
    k_extra "my words"
    all_goals
      (try dsimp only)
      (rename Fr _ _ _ _ => F9)
      (rename News _ _ _ _ => N9)
      refine' SPost.intro F9 N9 ⟨_, _, _, _, _, _⟩ ?g1 ?g2 ?g3
      case g1 => k_extra "my rows"
      case g2 => k_extra "my led"
      case g3 => k_extra "my is"
  rintro ⟨lb, lo, vb, vo, nb, no⟩ u h tk ee F1 N1
  clear F0 N0
  (try dsimp only at ee F1 N1)
  show wpAny _ _ _ _ _ { s with heap := h, toks := tk }
  refine and2 ee ?_
  clear ee
  intro e0 e1
  refine nameF F1 ?_
  clear F1
  intro mm F1
  rename Fr _ _ _ _ => F0
  rename News _ _ _ _ => N0
  refine' seqS (σ := Rs1) F0 (fun c => ([("a", .int a t1), ("b", .int b t2), ("m", .int m t3), ("by", .int p t4), ("place", .int q t5), ("bits", .ref c.lb), ("other_bits", .ref c.lo), ("often_here", .int c.x1 c.k1), ("lack_here", .int c.x2 c.k2)], [(c.lb, listOf c.vb.toArray c.nb), (c.lo, listOf c.vo.toArray c.no)])) (fun c => IntsAre c.vb (bitsN a 256) ∧ IntsAre c.vo (bitsN b 256) ∧ Is c.x1 (if b = 0 then 0 else a / b) ∧ Is c.x2 (if b = 0 then 0 else a % b)) ?st1 ?_
  case st1 =>
    k_extra "my words"
    all_goals
      (try dsimp only)
      (rename Fr _ _ _ _ => F9)
      (rename News _ _ _ _ => N9)
      refine' SPost.intro F9 N9 ⟨_, _, _, _, _, _, _, _, _, _⟩ ?g1 ?g2 ?g3
      case g1 => k_extra "my rows"
      case g2 => k_extra "my led"
      case g3 => k_extra "my is"
  clear e0 e1
  rintro ⟨lb, lo, vb, vo, nb, no, x1, k1, x2, k2⟩ u h tk ee F1 N1
  clear F0 N0
  (try dsimp only at ee F1 N1)
  show wpAny _ _ _ _ _ { s with heap := h, toks := tk }
  refine and4 ee ?_
  clear ee
  intro e0 e1 e2 e3
  refine nameF F1 ?_
  clear F1
  intro mm F1
  rename Fr _ _ _ _ => F0
  rename News _ _ _ _ => N0
  refine' seqS (σ := Rs2) F0 (fun c => ([("a", .int a t1), ("b", .int b t2), ("m", .int m t3), ("by", .int p t4), ("place", .int q t5), ("bits", .ref c.lb), ("other_bits", .ref c.lo), ("often_here", .int c.x1 c.k1), ("lack_here", .int c.x2 c.k2), ("turned_here", .int c.x3 c.k3), ("signed_lack", .int c.x4 c.k4)], [(c.lb, listOf c.vb.toArray c.nb), (c.lo, listOf c.vo.toArray c.no)])) (fun c => IntsAre c.vb (bitsN a 256) ∧ IntsAre c.vo (bitsN b 256) ∧ Is c.x1 (if b = 0 then 0 else a / b) ∧ Is c.x2 (if b = 0 then 0 else a % b) ∧ Is c.x3 ((sgnParts a b).1) ∧ Is c.x4 ((sgnParts a b).2)) ?st2 ?_
  case st2 =>
    k_extra "my words"
    all_goals
      (try dsimp only)
      (rename Fr _ _ _ _ => F9)
      (rename News _ _ _ _ => N9)
      refine' SPost.intro F9 N9 ⟨_, _, _, _, _, _, _, _, _, _, _, _, _, _⟩ ?g1 ?g2 ?g3
      case g1 => k_extra "my rows"
      case g2 => k_extra "my led"
      case g3 => k_extra "my is"
  clear e0 e1 e2 e3
  rintro ⟨lb, lo, vb, vo, nb, no, x1, k1, x2, k2, x3, k3, x4, k4⟩ u h tk ee F1 N1
  clear F0 N0
  (try dsimp only at ee F1 N1)
  show wpAny _ _ _ _ _ { s with heap := h, toks := tk }
  refine and6 ee ?_
  clear ee
  intro e0 e1 e2 e3 e4 e5
  refine nameF F1 ?_
  clear F1
  intro mm F1
  rename Fr _ _ _ _ => F0
  rename News _ _ _ _ => N0
  refine' seqS (σ := Rs3) F0 (fun c => ([("a", .int a t1), ("b", .int b t2), ("m", .int m t3), ("by", .int p t4), ("place", .int q t5), ("bits", .ref c.lb), ("other_bits", .ref c.lo), ("often_here", .int c.x1 c.k1), ("lack_here", .int c.x2 c.k2), ("turned_here", .int c.x3 c.k3), ("signed_lack", .int c.x4 c.k4), ("up", .int c.x5 c.k5), ("down", .int c.x6 c.k6), ("down_signed", .int c.x7 c.k7)], [(c.lb, listOf c.vb.toArray c.nb), (c.lo, listOf c.vo.toArray c.no)])) (fun c => IntsAre c.vb (bitsN a 256) ∧ IntsAre c.vo (bitsN b 256) ∧ Is c.x1 (if b = 0 then 0 else a / b) ∧ Is c.x2 (if b = 0 then 0 else a % b) ∧ Is c.x3 ((sgnParts a b).1) ∧ Is c.x4 ((sgnParts a b).2) ∧ Is c.x5 (wt ((List.replicate (if p < 256 then p else 256).toNat 0 ++ bitsN a 256).take 256)) ∧ Is c.x6 (wt ((bitsN a 256).drop (if p < 256 then p else 256).toNat)) ∧ Is c.x7 (wt ((bitsN a 256).drop (if p < 256 then p else 256).toNat ++ List.replicate (if p < 256 then p else 256).toNat ((bitsN a 256).getD 255 0)))) ?st3 ?_
  case st3 =>
    k_extra "my words"
    all_goals
      (try dsimp only)
      (rename Fr _ _ _ _ => F9)
      (rename News _ _ _ _ => N9)
      refine' SPost.intro F9 N9 ⟨_, _, _, _, _, _, _, _, _, _, _, _, _, _, _, _, _, _, _, _⟩ ?g1 ?g2 ?g3
      case g1 => k_extra "my rows"
      case g2 => k_extra "my led"
      case g3 => k_extra "my is"
  clear e0 e1 e2 e3 e4 e5
  rintro ⟨lb, lo, vb, vo, nb, no, x1, k1, x2, k2, x3, k3, x4, k4, x5, k5, x6, k6, x7, k7⟩ u h tk ee F1 N1
  clear F0 N0
  (try dsimp only at ee F1 N1)
  show wpAny _ _ _ _ _ { s with heap := h, toks := tk }
  refine and9 ee ?_
  clear ee
  intro e0 e1 e2 e3 e4 e5 e6 e7 e8
  refine nameF F1 ?_
  clear F1
  intro mm F1
  rename Fr _ _ _ _ => F0
  rename News _ _ _ _ => N0
  refine' seqS (σ := Rs4) F0 (fun c => ([("a", .int a t1), ("b", .int b t2), ("m", .int m t3), ("by", .int p t4), ("place", .int q t5), ("bits", .ref c.lb), ("other_bits", .ref c.lo), ("often_here", .int c.x1 c.k1), ("lack_here", .int c.x2 c.k2), ("turned_here", .int c.x3 c.k3), ("signed_lack", .int c.x4 c.k4), ("up", .int c.x5 c.k5), ("down", .int c.x6 c.k6), ("down_signed", .int c.x7 c.k7), ("one", .int c.x8 c.k8), ("other", .int c.x9 c.k9)], [(c.lb, listOf c.vb.toArray c.nb), (c.lo, listOf c.vo.toArray c.no)])) (fun c => IntsAre c.vb (bitsN a 256) ∧ IntsAre c.vo (bitsN b 256) ∧ Is c.x1 (if b = 0 then 0 else a / b) ∧ Is c.x2 (if b = 0 then 0 else a % b) ∧ Is c.x3 ((sgnParts a b).1) ∧ Is c.x4 ((sgnParts a b).2) ∧ Is c.x5 (wt ((List.replicate (if p < 256 then p else 256).toNat 0 ++ bitsN a 256).take 256)) ∧ Is c.x6 (wt ((bitsN a 256).drop (if p < 256 then p else 256).toNat)) ∧ Is c.x7 (wt ((bitsN a 256).drop (if p < 256 then p else 256).toNat ++ List.replicate (if p < 256 then p else 256).toNat ((bitsN a 256).getD 255 0))) ∧ Is c.x8 (withSign a) ∧ Is c.x9 (withSign b)) ?st4 ?_
  case st4 =>
    k_extra "my words"
    all_goals
      (try dsimp only)
      (rename Fr _ _ _ _ => F9)
      (rename News _ _ _ _ => N9)
      refine' SPost.intro F9 N9 ⟨_, _, _, _, _, _, _, _, _, _, _, _, _, _, _, _, _, _, _, _, _, _, _, _⟩ ?g1 ?g2 ?g3
      case g1 => k_extra "my rows"
      case g2 => k_extra "my led"
      case g3 => k_extra "my is"
  clear e0 e1 e2 e3 e4 e5 e6 e7 e8
  rintro ⟨lb, lo, vb, vo, nb, no, x1, k1, x2, k2, x3, k3, x4, k4, x5, k5, x6, k6, x7, k7, x8, k8, x9, k9⟩ u h tk ee F1 N1
  clear F0 N0
  (try dsimp only at ee F1 N1)
  show wpAny _ _ _ _ _ { s with heap := h, toks := tk }
  refine and11 ee ?_
  clear ee
  intro e0 e1 e2 e3 e4 e5 e6 e7 e8 e9 e10
  refine nameF F1 ?_
  clear F1
  intro mm F1
  rename Fr _ _ _ _ => F0
  rename News _ _ _ _ => N0
  refine' seqS (σ := Rs5) F0 (fun c => ([("a", .int a t1), ("b", .int b t2), ("m", .int m t3), ("by", .int p t4), ("place", .int q t5), ("bits", .ref c.lb), ("other_bits", .ref c.lo), ("often_here", .int c.x1 c.k1), ("lack_here", .int c.x2 c.k2), ("turned_here", .int c.x3 c.k3), ("signed_lack", .int c.x4 c.k4), ("up", .int c.x5 c.k5), ("down", .int c.x6 c.k6), ("down_signed", .int c.x7 c.k7), ("one", .int c.x8 c.k8), ("other", .int c.x9 c.k9), ("pairs", .ref c.pl), ("octet", .int c.x10 c.k10)], (c.pl, { cls := .type "list", data := .seq c.its c.nc }) :: (c.lb, listOf c.vb.toArray c.nb) :: (c.lo, listOf c.vo.toArray c.no) :: c.tn)) (fun c => IntsAre c.vb (bitsN a 256) ∧ IntsAre c.vo (bitsN b 256) ∧ Is c.x1 (if b = 0 then 0 else a / b) ∧ Is c.x2 (if b = 0 then 0 else a % b) ∧ Is c.x3 ((sgnParts a b).1) ∧ Is c.x4 ((sgnParts a b).2) ∧ Is c.x5 (wt ((List.replicate (if p < 256 then p else 256).toNat 0 ++ bitsN a 256).take 256)) ∧ Is c.x6 (wt ((bitsN a 256).drop (if p < 256 then p else 256).toNat)) ∧ Is c.x7 (wt ((bitsN a 256).drop (if p < 256 then p else 256).toNat ++ List.replicate (if p < 256 then p else 256).toNat ((bitsN a 256).getD 255 0))) ∧ Is c.x8 (withSign a) ∧ Is c.x9 (withSign b) ∧ PairsIn c.its (bitsN a 256) (bitsN b 256) c.tn ∧ Is c.x10 (if q < 32 then (digits (bitsN a 256)).getD q.toNat 0 else 0)) ?st5 ?_
  case st5 =>
    k_extra "my words"
    refine' list_zip_K ?F ?N ?F0 ?N0 rfl (lb0.trans la.symm) ?hsz e0 e1 ?D ?Z ?kz ?k1 ?k2 ?k3 ?_
    case F => assumption
    case N => assumption
    case D => assumption
    case Z => assumption
    case kz => assumption
    case F0 => assumption
    case N0 => assumption
    case k1 => assumption
    case k2 => assumption
    case k3 => assumption
    case hsz => rw [la]; decide
    intro pl its tn nc h' F' N' eP l1
    dsimp only [List.cons_append, List.nil_append] at N'
    simp only [List.cons_append, List.nil_append, AllNe, and_true] at l1
    (try dsimp only)
    k_extra "my words"
    all_goals
      (try dsimp only)
      (rename Fr _ _ _ _ => F9)
      (rename News _ _ _ _ => N9)
      refine' SPost.intro F9 N9 ⟨_, _, _, _, _, _, _, _, _, _, _, _, _, _, _, _, _, _, _, _, _, _, _, _, _, _, _, tn, _, _⟩ ?g1 ?g2 ?g3
      case g1 => k_extra "my rows"
      case g2 => k_extra "my led"
      case g3 => k_extra "my is"
  clear e0 e1 e2 e3 e4 e5 e6 e7 e8 e9 e10
  rintro ⟨lb, lo, vb, vo, nb, no, x1, k1, x2, k2, x3, k3, x4, k4, x5, k5, x6, k6, x7, k7, x8, k8, x9, k9, pl, its, nc, tn, x10, k10⟩ u h tk ee F1 N1
  clear F0 N0
  (try dsimp only at ee F1 N1)
  show wpAny _ _ _ _ _ { s with heap := h, toks := tk }
  refine and13 ee ?_
  clear ee
  intro e0 e1 e2 e3 e4 e5 e6 e7 e8 e9 e10 e11 e12
  refine nameF F1 ?_
  clear F1
  intro mm F1
  rename Fr _ _ _ _ => F0
  rename News _ _ _ _ => N0
  refine' seqS (σ := Rs6) F0 (fun c => ([("a", .int a t1), ("b", .int b t2), ("bits", .ref c.lb), ("other_bits", .ref c.lo), ("one", .int c.x8 c.k8), ("other", .int c.x9 c.k9), ("pairs", .ref c.pl), ("rows_here", .ref c.rl)], (c.rl, listOf c.rv.toArray c.rn) :: (c.pl, { cls := .type "list", data := .seq c.its c.nc }) :: (c.lb, listOf c.vb.toArray c.nb) :: (c.lo, listOf c.vo.toArray c.no) :: c.tn)) (fun c => IntsAre c.vb (bitsN a 256) ∧ IntsAre c.vo (bitsN b 256) ∧ Is c.x8 (withSign a) ∧ Is c.x9 (withSign b) ∧ PairsIn c.its (bitsN a 256) (bitsN b 256) c.tn ∧ RowsIn c.tn c.rv (rows7 a b m p q)) ?st6 ?_
  case st6 =>
    obtain ⟨d1, d2, d3, d4, d5, d6, d7, d10⟩ := dues_of (m := m) ha0 ha1 hb0 hp0 hq0 e2 e3 e4 e5 e6 e7 e8 e12
    clear e2 e3 e4 e5 e6 e7 e8 e12
    have bs1 : Builtin.Int.intBits (a + b) ≤ 1024 := by have := intBits_add_le bbA bbB; omega
    have bs2 : Builtin.Int.intBits (a * b) ≤ 1024 := by have := intBits_mul_le bbA bbB; omega
    have bs3 : Builtin.Int.intBits (a - b) ≤ 1024 := by have := intBits_sub_le bbA bbB; omega
    have nn1 : 0 ≤ a + b := by omega
    have nn2 : 0 ≤ a * b := Int.mul_nonneg ha0 hb0
    refine nameL [(pl, { cls := .type "list", data := .seq its nc }), (lb, listOf vb.toArray nb), (lo, listOf vo.toArray no)] ?_
    intro hd0
    k_extra "my nt"
    (rename Fr _ _ _ _ => FC)
    (rename News _ _ _ _ => NC)
    refine' cutR FC hd0 tn NC (fun tn' v => RowIn tn' v ("ADD", [a, b], (a + b).fmod WORD)) ?rB ?_
    case rB =>
      k_extra "my cut row"
    clear FC NC
    intro v1 tn1 h1 tk1 F1 N1 S1 R1
    try dsimp only [List.cons_append, List.nil_append] at N1
    k_extra "my nt"
    (rename Fr _ _ _ _ => FC)
    (rename News _ _ _ _ => NC)
    refine' cutR FC hd0 tn1 NC (fun tn' v => RowIn tn' v ("MUL", [a, b], (a * b).fmod WORD)) ?rB ?_
    case rB =>
      k_extra "my cut row"
    clear FC NC
    intro v2 tn2 h2 tk2 F2 N2 S2 R2
    try dsimp only [List.cons_append, List.nil_append] at N2
    k_extra "my nt"
    (rename Fr _ _ _ _ => FC)
    (rename News _ _ _ _ => NC)
    refine' cutR FC hd0 tn2 NC (fun tn' v => RowIn tn' v ("SUB", [a, b], (a - b).fmod WORD)) ?rB ?_
    case rB =>
      k_extra "my cut row"
    clear FC NC
    intro v3 tn3 h3 tk3 F3 N3 S3 R3
    try dsimp only [List.cons_append, List.nil_append] at N3
    k_extra "my nt"
    (rename Fr _ _ _ _ => FC)
    (rename News _ _ _ _ => NC)
    refine' cutR FC hd0 tn3 NC (fun tn' v => RowIn tn' v ("DIV", [a, b], if b = 0 then 0 else a.fdiv b)) ?rB ?_
    case rB =>
      k_extra "my cut row"
    clear FC NC
    intro v4 tn4 h4 tk4 F4 N4 S4 R4
    try dsimp only [List.cons_append, List.nil_append] at N4
    k_extra "my nt"
    (rename Fr _ _ _ _ => FC)
    (rename News _ _ _ _ => NC)
    refine' cutR FC hd0 tn4 NC (fun tn' v => RowIn tn' v ("MOD", [a, b], if b = 0 then 0 else a.fmod b)) ?rB ?_
    case rB =>
      k_extra "my cut row"
    clear FC NC
    intro v5 tn5 h5 tk5 F5 N5 S5 R5
    try dsimp only [List.cons_append, List.nil_append] at N5
    k_extra "my nt"
    (rename Fr _ _ _ _ => FC)
    (rename News _ _ _ _ => NC)
    refine' cutR FC hd0 tn5 NC (fun tn' v => RowIn tn' v ("SDIV", [a, b], sgnQuot a b)) ?rB ?_
    case rB =>
      k_extra "my cut row"
    clear FC NC
    intro v6 tn6 h6 tk6 F6 N6 S6 R6
    try dsimp only [List.cons_append, List.nil_append] at N6
    k_extra "my nt"
    (rename Fr _ _ _ _ => FC)
    (rename News _ _ _ _ => NC)
    refine' cutR FC hd0 tn6 NC (fun tn' v => RowIn tn' v ("SMOD", [a, b], sgnRest a b)) ?rB ?_
    case rB =>
      k_extra "my cut row"
    clear FC NC
    intro v7 tn7 h7 tk7 F7 N7 S7 R7
    try dsimp only [List.cons_append, List.nil_append] at N7
    k_extra "my nt"
    (rename Fr _ _ _ _ => FC)
    (rename News _ _ _ _ => NC)
    refine' cutR FC hd0 tn7 NC (fun tn' v => RowIn tn' v ("ADDMOD", [a, b, m], if m = 0 then 0 else (a + b).fmod m)) ?rB ?_
    case rB =>
      k_extra "my cut row"
    clear FC NC
    intro v8 tn8 h8 tk8 F8 N8 S8 R8
    try dsimp only [List.cons_append, List.nil_append] at N8
    k_extra "my nt"
    (rename Fr _ _ _ _ => FC)
    (rename News _ _ _ _ => NC)
    refine' cutR FC hd0 tn8 NC (fun tn' v => RowIn tn' v ("MULMOD", [a, b, m], if m = 0 then 0 else (a * b).fmod m)) ?rB ?_
    case rB =>
      k_extra "my cut row"
    clear FC NC
    intro v9 tn9 h9 tk9 F9 N9 S9 R9
    try dsimp only [List.cons_append, List.nil_append] at N9
    k_extra "my nt"
    (rename Fr _ _ _ _ => FC)
    (rename News _ _ _ _ => NC)
    refine' cutR FC hd0 tn9 NC (fun tn' v => RowIn tn' v ("EXP", [a, b], (a ^ b.toNat).fmod WORD)) ?rB ?_
    case rB =>
      k_extra "my cut row"
    clear FC NC
    intro v10 tn10 h10 tk10 F10 N10 S10 R10
    try dsimp only [List.cons_append, List.nil_append] at N10
    k_extra "my nt"
    (rename Fr _ _ _ _ => FC)
    (rename News _ _ _ _ => NC)
    refine' cutR FC hd0 tn10 NC (fun tn' v => RowIn tn' v ("SIGNEXTEND", [q, a], if q ≥ 31 then a else if a.fmod (1 * 2 ^ (8 * q + 7).toNat + 1 * 2 ^ (8 * q + 7).toNat) ≥ 1 * 2 ^ (8 * q + 7).toNat then (a.fmod (1 * 2 ^ (8 * q + 7).toNat + 1 * 2 ^ (8 * q + 7).toNat) - 1 * 2 ^ (8 * q + 7).toNat - 1 * 2 ^ (8 * q + 7).toNat).fmod WORD else a.fmod (1 * 2 ^ (8 * q + 7).toNat + 1 * 2 ^ (8 * q + 7).toNat))) ?rB ?_
    case rB =>
      k_extra "my cut row"
    clear FC NC
    intro v11 tn11 h11 tk11 F11 N11 S11 R11
    try dsimp only [List.cons_append, List.nil_append] at N11
    k_extra "my nt"
    (rename Fr _ _ _ _ => FC)
    (rename News _ _ _ _ => NC)
    refine' cutR FC hd0 tn11 NC (fun tn' v => RowIn tn' v ("BYTE", [q, a], if q ≥ 32 then 0 else (a.fdiv (2 ^ (8 * (32 - 1 - q)).toNat)) % 256)) ?rB ?_
    case rB =>
      k_extra "my cut row"
    clear FC NC
    intro v12 tn12 h12 tk12 F12 N12 S12 R12
    try dsimp only [List.cons_append, List.nil_append] at N12
    k_extra "my nt"
    (rename Fr _ _ _ _ => FC)
    (rename News _ _ _ _ => NC)
    refine' cutR FC hd0 tn12 NC (fun tn' v => RowIn tn' v ("SHL", [p, a], if p ≥ 256 then 0 else (a * 2 ^ p.toNat).fmod WORD)) ?rB ?_
    case rB =>
      k_extra "my cut row"
    clear FC NC
    intro v13 tn13 h13 tk13 F13 N13 S13 R13
    try dsimp only [List.cons_append, List.nil_append] at N13
    k_extra "my nt"
    (rename Fr _ _ _ _ => FC)
    (rename News _ _ _ _ => NC)
    refine' cutR FC hd0 tn13 NC (fun tn' v => RowIn tn' v ("SHR", [p, a], if p ≥ 256 then 0 else a.fdiv (2 ^ p.toNat))) ?rB ?_
    case rB =>
      k_extra "my cut row"
    clear FC NC
    intro v14 tn14 h14 tk14 F14 N14 S14 R14
    try dsimp only [List.cons_append, List.nil_append] at N14
    k_extra "my nt"
    (rename Fr _ _ _ _ => FC)
    (rename News _ _ _ _ => NC)
    refine' cutR FC hd0 tn14 NC (fun tn' v => RowIn tn' v ("SAR", [p, a], ((withSign a).fdiv (2 ^ (if 256 < p then 256 else p).toNat)).fmod WORD)) ?rB ?_
    case rB =>
      k_extra "my cut row"
    clear FC NC
    intro v15 tn15 h15 tk15 F15 N15 S15 R15
    try dsimp only [List.cons_append, List.nil_append] at N15
    k_extra "my words"
    (try dsimp only)
    (rename Fr _ _ _ _ => F9)
    (rename News _ _ _ _ => N9)
    have U15 : ∀ p ∈ tn15, p ∈ tn15 := fun _ h => h
    have U14 : ∀ p ∈ tn14, p ∈ tn15 := fun p h => U15 p (S15 p h)
    have U13 : ∀ p ∈ tn13, p ∈ tn15 := fun p h => U14 p (S14 p h)
    have U12 : ∀ p ∈ tn12, p ∈ tn15 := fun p h => U13 p (S13 p h)
    have U11 : ∀ p ∈ tn11, p ∈ tn15 := fun p h => U12 p (S12 p h)
    have U10 : ∀ p ∈ tn10, p ∈ tn15 := fun p h => U11 p (S11 p h)
    have U9 : ∀ p ∈ tn9, p ∈ tn15 := fun p h => U10 p (S10 p h)
    have U8 : ∀ p ∈ tn8, p ∈ tn15 := fun p h => U9 p (S9 p h)
    have U7 : ∀ p ∈ tn7, p ∈ tn15 := fun p h => U8 p (S8 p h)
    have U6 : ∀ p ∈ tn6, p ∈ tn15 := fun p h => U7 p (S7 p h)
    have U5 : ∀ p ∈ tn5, p ∈ tn15 := fun p h => U6 p (S6 p h)
    have U4 : ∀ p ∈ tn4, p ∈ tn15 := fun p h => U5 p (S5 p h)
    have U3 : ∀ p ∈ tn3, p ∈ tn15 := fun p h => U4 p (S4 p h)
    have U2 : ∀ p ∈ tn2, p ∈ tn15 := fun p h => U3 p (S3 p h)
    have U1 : ∀ p ∈ tn1, p ∈ tn15 := fun p h => U2 p (S2 p h)
    have U0 : ∀ p ∈ tn, p ∈ tn15 := fun p h => U1 p (S1 p h)
    refine' SPost.intro F9 N9 ⟨lb, lo, vb, vo, nb, no, x8, k8, x9, k9, pl, its, nc, _, [v1, v2, v3, v4, v5, v6, v7, v8, v9, v10, v11, v12, v13, v14, v15], _, tn15⟩ ?g1 ?g2 ?g3
    case g1 => k_extra "my rows"
    case g2 => k_extra "my led"
    case g3 => exact ⟨e0, e1, e9, e10, e11.mono U0, RowsG.cons (R1.mono U1) (RowsG.cons (R2.mono U2) (RowsG.cons (R3.mono U3) (RowsG.cons (R4.mono U4) (RowsG.cons (R5.mono U5) (RowsG.cons (R6.mono U6) (RowsG.cons (R7.mono U7) (RowsG.cons (R8.mono U8) (RowsG.cons (R9.mono U9) (RowsG.cons (R10.mono U10) (RowsG.cons (R11.mono U11) (RowsG.cons (R12.mono U12) (RowsG.cons (R13.mono U13) (RowsG.cons (R14.mono U14) (RowsG.cons (R15.mono U15) (RowsG.nil)))))))))))))))⟩
  clear e0 e1 e2 e3 e4 e5 e6 e7 e8 e9 e10 e11 e12
  rintro ⟨lb, lo, vb, vo, nb, no, x8, k8, x9, k9, pl, its, nc, rl, rv, rn, tn⟩ u h tk ee F1 N1
  clear F0 N0
  (try dsimp only at ee F1 N1)
  show wpAny _ _ _ _ _ { s with heap := h, toks := tk }
  refine and6 ee ?_
  clear ee
  intro e0 e1 e2 e3 e4 e5
  refine nameF F1 ?_
  clear F1
  intro mm F1
  rename Fr _ _ _ _ => F0
  rename News _ _ _ _ => N0
  refine' seqS (σ := Rs7) F0 (fun c => ([("a", .int a t1), ("b", .int b t2), ("bits", .ref c.lb), ("other_bits", .ref c.lo), ("one", .int c.x8 c.k8), ("other", .int c.x9 c.k9), ("pairs", .ref c.pl), ("rows_here", .ref c.rl), ("is_lower", .bool c.y1), ("is_upper", .bool c.y2)], (c.rl, listOf c.rv.toArray c.rn) :: (c.pl, { cls := .type "list", data := .seq c.its c.nc }) :: (c.lb, listOf c.vb.toArray c.nb) :: (c.lo, listOf c.vo.toArray c.no) :: c.tn)) (fun c => IntsAre c.vb (bitsN a 256) ∧ IntsAre c.vo (bitsN b 256) ∧ Is c.x8 (withSign a) ∧ Is c.x9 (withSign b) ∧ PairsIn c.its (bitsN a 256) (bitsN b 256) c.tn ∧ RowsIn c.tn c.rv (rows7 a b m p q) ∧ IsB c.y1 (decide (a < b)) ∧ IsB c.y2 (decide (b < a))) ?st7 ?_
  case st7 =>
    k_extra "my words"
    (try dsimp only)
    (rename Fr _ _ _ _ => F9)
    (rename News _ _ _ _ => N9)
    refine' SPost.intro F9 N9 ⟨_, _, _, _, _, _, _, _, _, _, _, _, _, _, _, _, tn, _, _⟩ ?g1 ?g2 ?g3
    case g1 => k_extra "my rows"
    case g2 => k_extra "my led"
    case g3 => exact ⟨e0, e1, e2, e3, e4, e5, row_lt ha0 ha1 hb0 hb1, row_lt hb0 hb1 ha0 ha1⟩
  clear e0 e1 e2 e3 e4 e5
  rintro ⟨lb, lo, vb, vo, nb, no, x8, k8, x9, k9, pl, its, nc, rl, rv, rn, tn, y1, y2⟩ u h tk ee F1 N1
  clear F0 N0
  (try dsimp only at ee F1 N1)
  show wpAny _ _ _ _ _ { s with heap := h, toks := tk }
  refine and8 ee ?_
  clear ee
  intro e0 e1 e2 e3 e4 e5 e6 e7
  refine nameF F1 ?_
  clear F1
  intro mm F1
  rename Fr _ _ _ _ => F0
  rename News _ _ _ _ => N0
  refine' seqS (σ := Rs8) F0 (fun c => ([("a", .int a t1), ("b", .int b t2), ("bits", .ref c.lb), ("pairs", .ref c.pl), ("rows_here", .ref c.rl), ("told_here", .ref c.tl)], (c.tl, listOf c.tv.toArray c.tk0) :: (c.rl, listOf c.rv.toArray c.rn) :: (c.pl, { cls := .type "list", data := .seq c.its c.nc }) :: (c.lb, listOf c.vb.toArray c.nb) :: c.tn)) (fun c => IntsAre c.vb (bitsN a 256) ∧ Offs c.tl c.rl c.pl c.lb c.tn ∧ PairsIn c.its (bitsN a 256) (bitsN b 256) c.tn ∧ RowsIn c.tn c.rv (rows7 a b m p q) ∧ RowsG (TRowIn c.tn) c.tv ((rows10 a b).take 6)) ?st8 ?_
  case st8 =>
    k_extra "my nt"
    (rename Fr _ _ _ _ => FC)
    (rename News _ _ _ _ => NC)
    refine' cutR FC [(rl, listOf rv.toArray rn), (pl, { cls := .type "list", data := .seq its nc }), (lb, listOf vb.toArray nb), (lo, listOf vo.toArray no)] tn NC (fun tn' v => TRowIn tn' v ("LT", [a, b], if decide (a < b) = true then 1 else 0)) ?rB ?_
    case rB =>
      k_extra "my cut trow"
    clear FC NC
    intro v1 tn1 h1 tk1 F1 N1 S1 R1
    try dsimp only [List.cons_append, List.nil_append] at N1
    k_extra "my nt"
    (rename Fr _ _ _ _ => FC)
    (rename News _ _ _ _ => NC)
    refine' cutR FC [(rl, listOf rv.toArray rn), (pl, { cls := .type "list", data := .seq its nc }), (lb, listOf vb.toArray nb), (lo, listOf vo.toArray no)] tn1 NC (fun tn' v => TRowIn tn' v ("GT", [a, b], if decide (b < a) = true then 1 else 0)) ?rB ?_
    case rB =>
      k_extra "my cut trow"
    clear FC NC
    intro v2 tn2 h2 tk2 F2 N2 S2 R2
    try dsimp only [List.cons_append, List.nil_append] at N2
    k_extra "my nt"
    (rename Fr _ _ _ _ => FC)
    (rename News _ _ _ _ => NC)
    refine' cutR FC [(rl, listOf rv.toArray rn), (pl, { cls := .type "list", data := .seq its nc }), (lb, listOf vb.toArray nb), (lo, listOf vo.toArray no)] tn2 NC (fun tn' v => TRowIn tn' v ("EQ", [a, b], if (a == b) = true then 1 else 0)) ?rB ?_
    case rB =>
      k_extra "my cut trow"
    clear FC NC
    intro v3 tn3 h3 tk3 F3 N3 S3 R3
    try dsimp only [List.cons_append, List.nil_append] at N3
    k_extra "my nt"
    (rename Fr _ _ _ _ => FC)
    (rename News _ _ _ _ => NC)
    refine' cutR FC [(rl, listOf rv.toArray rn), (pl, { cls := .type "list", data := .seq its nc }), (lb, listOf vb.toArray nb), (lo, listOf vo.toArray no)] tn3 NC (fun tn' v => TRowIn tn' v ("SLT", [a, b], if decide (withSign a < withSign b) = true then 1 else 0)) ?rB ?_
    case rB =>
      k_extra "my cut trow"
    clear FC NC
    intro v4 tn4 h4 tk4 F4 N4 S4 R4
    try dsimp only [List.cons_append, List.nil_append] at N4
    k_extra "my nt"
    (rename Fr _ _ _ _ => FC)
    (rename News _ _ _ _ => NC)
    refine' cutR FC [(rl, listOf rv.toArray rn), (pl, { cls := .type "list", data := .seq its nc }), (lb, listOf vb.toArray nb), (lo, listOf vo.toArray no)] tn4 NC (fun tn' v => TRowIn tn' v ("SGT", [a, b], if decide (withSign b < withSign a) = true then 1 else 0)) ?rB ?_
    case rB =>
      k_extra "my cut trow"
    clear FC NC
    intro v5 tn5 h5 tk5 F5 N5 S5 R5
    try dsimp only [List.cons_append, List.nil_append] at N5
    k_extra "my nt"
    (rename Fr _ _ _ _ => FC)
    (rename News _ _ _ _ => NC)
    refine' cutR FC [(rl, listOf rv.toArray rn), (pl, { cls := .type "list", data := .seq its nc }), (lb, listOf vb.toArray nb), (lo, listOf vo.toArray no)] tn5 NC (fun tn' v => TRowIn tn' v ("ISZERO", [a], if (a == 0) = true then 1 else 0)) ?rB ?_
    case rB =>
      k_extra "my cut trow"
    clear FC NC
    intro v6 tn6 h6 tk6 F6 N6 S6 R6
    try dsimp only [List.cons_append, List.nil_append] at N6
    k_extra "my words"
    (try dsimp only)
    (rename Fr _ _ _ _ => F9)
    (rename News _ _ _ _ => N9)
    have U6 : ∀ p ∈ tn6, p ∈ tn6 := fun _ h => h
    have U5 : ∀ p ∈ tn5, p ∈ tn6 := fun p h => U6 p (S6 p h)
    have U4 : ∀ p ∈ tn4, p ∈ tn6 := fun p h => U5 p (S5 p h)
    have U3 : ∀ p ∈ tn3, p ∈ tn6 := fun p h => U4 p (S4 p h)
    have U2 : ∀ p ∈ tn2, p ∈ tn6 := fun p h => U3 p (S3 p h)
    have U1 : ∀ p ∈ tn1, p ∈ tn6 := fun p h => U2 p (S2 p h)
    have U0 : ∀ p ∈ tn, p ∈ tn6 := fun p h => U1 p (S1 p h)
    refine' SPost.intro F9 N9 ⟨lb, vb, nb, pl, its, nc, rl, rv, rn, _, [v1, v2, v3, v4, v5, v6], _, tn6⟩ ?g1 ?g2 ?g3
    case g1 => k_extra "my rows"
    case g2 => k_extra "my led"
    case g3 => exact ⟨e0, Offs.lt (by assumption), e4.mono U0, e5.mono fun _ _ h => h.mono U0, RowsG.cons (R1.mono U1) (RowsG.cons (R2.mono U2) (RowsG.cons (R3.mono U3) (RowsG.cons (R4.mono U4) (RowsG.cons (R5.mono U5) (RowsG.cons (R6.mono U6) (RowsG.nil))))))⟩
  clear e0 e1 e2 e3 e4 e5 e6 e7
  rintro ⟨lb, vb, nb, pl, its, nc, rl, rv, rn, tl, tv, tk0, tn⟩ u h tk ee F1 N1
  clear F0 N0
  (try dsimp only at ee F1 N1)
  show wpAny _ _ _ _ _ { s with heap := h, toks := tk }
  refine and5 ee ?_
  clear ee
  intro e0 e1 e2 e3 e4
  refine nameF F1 ?_
  clear F1
  intro mm F1
  rename Fr _ _ _ _ => F0
  rename News _ _ _ _ => N0
  refine' seqS (σ := Rs9) F0 (fun c => ([("a", .int a t1), ("b", .int b t2), ("bits", .ref c.lb), ("pairs", .ref c.pl), ("rows_here", .ref c.rl), ("told_here", .ref c.tl)], (c.tl, listOf c.tv.toArray c.tk0) :: (c.rl, listOf c.rv.toArray c.rn) :: (c.pl, { cls := .type "list", data := .seq c.its c.nc }) :: (c.lb, listOf c.vb.toArray c.nb) :: c.tn)) (fun c => IntsAre c.vb (bitsN a 256) ∧ Offs c.tl c.rl c.pl c.lb c.tn ∧ PairsIn c.its (bitsN a 256) (bitsN b 256) c.tn ∧ RowsIn c.tn c.rv (rows7 a b m p q) ∧ RowsG (TRowIn c.tn) c.tv ((rows10 a b).take 7)) ?st9 ?_
  case st9 =>
    have hlaw := row_and ha0 ha1 hb0
    have BA := bitsN_Bits a 256
    have BB := bitsN_Bits b 256
    k_extra "my nt"
    (rename Fr _ _ _ _ => FC)
    (rename News _ _ _ _ => NC)
    refine' cutR FC [(tl, listOf tv.toArray tk0), (rl, listOf rv.toArray rn), (pl, { cls := .type "list", data := .seq its nc }), (lb, listOf vb.toArray nb)] tn NC (fun tn' v => TRowIn tn' v ("AND", [a, b], Builtin.bitAnd a b)) ?rB ?_
    case rB =>
      k_extra "my comp"
      rw [eval_ListComp]
      refine' wpAny_comprehension_free (use := none) rfl ?cs ?cc rfl (by decide) ?_
      case cs => intro _; rfl
      case cc => with_unfolding_all rfl
      dsimp only [firstIter]
      k_extra "my comp"
      (rename Fr _ _ _ _ => F3)
      (rename News _ _ _ _ => N3)
      refine' compPairs (fun x y => x * y) F3 N3 rfl ?hm ?htn e2 ?hn ?hsz (by decide) rfl rfl rfl (by decide) ?el ?dn
      case hm => k_memK
      case htn => (intro p9 h9; k_extra "my own")
      case hn => rw [len_bits, len_bits]
      case hsz => (rw [len_bits]; decide)
      case el =>
        intro g2 i t u2 C D zs ep own h9 tk9 m' E' hkeep hi hm1 hm2 F' N' hD
        have B1 := BA.small i
        have B2 := BB.small i
        clear F3 N3 hkeep
        k_extra "my comp"
        refine CPost.intro (by assumption) (by assumption) (fun p9 h9 => by k_extra "my own") rfl
      case dn =>
        intro D h' tk' zs ep F' N' ne' hI'
        clear F3 N3
        (try dsimp only)
        k_extra "my words"
        (rename Fr _ _ _ _ => FB)
        (rename News _ _ _ _ => NB)
        refine' RPost.intro FB NB ?p1 ?p2 ?p3
        case p1 => k_extra "my led"
        case p2 => (intro p9 h9; k_extra "my own")
        case p3 => k_extra "my trow"
    clear FC NC
    intro v1 tn1 h1 tk1 F1 N1 S1 R1
    try dsimp only [List.cons_append, List.nil_append] at N1
    k_extra "my na"
    refine' append_row (hd := [(rl, listOf rv.toArray rn), (pl, { cls := .type "list", data := .seq its nc }), (lb, listOf vb.toArray nb)]) (rs := (rows10 a b).take 6) F1 N1 S1 e1.1 e1.2 R1 e4 (Nat.le_of_ble_eq_true rfl) (by rw [e4.length]; exact Nat.le_of_ble_eq_true rfl) ?_
    intro h2 tn2 F2 N2 S2 hne2 R2
    (try dsimp only)
    refine' SPost.intro F2 N2 ⟨lb, vb, nb, pl, its, nc, rl, rv, rn, tl, tv ++ [v1], tk0 + 1, tn2⟩ ?g1 (fun _ h => h) ?g3
    case g1 => k_extra "my rows"
    case g3 => exact ⟨e0, ⟨e1.1, hne2⟩, e2.mono S2, e3.mono fun _ _ h => h.mono S2, (e4.mono fun _ _ h => h.mono S2).snoc R2⟩
  clear e0 e1 e2 e3 e4
  rintro ⟨lb, vb, nb, pl, its, nc, rl, rv, rn, tl, tv, tk0, tn⟩ u h tk ee F1 N1
  clear F0 N0
  (try dsimp only at ee F1 N1)
  show wpAny _ _ _ _ _ { s with heap := h, toks := tk }
  refine and5 ee ?_
  clear ee
  intro e0 e1 e2 e3 e4
  refine nameF F1 ?_
  clear F1
  intro mm F1
  rename Fr _ _ _ _ => F0
  rename News _ _ _ _ => N0
  refine' seqS (σ := Rs10) F0 (fun c => ([("a", .int a t1), ("b", .int b t2), ("bits", .ref c.lb), ("pairs", .ref c.pl), ("rows_here", .ref c.rl), ("told_here", .ref c.tl)], (c.tl, listOf c.tv.toArray c.tk0) :: (c.rl, listOf c.rv.toArray c.rn) :: (c.pl, { cls := .type "list", data := .seq c.its c.nc }) :: (c.lb, listOf c.vb.toArray c.nb) :: c.tn)) (fun c => IntsAre c.vb (bitsN a 256) ∧ Offs c.tl c.rl c.pl c.lb c.tn ∧ PairsIn c.its (bitsN a 256) (bitsN b 256) c.tn ∧ RowsIn c.tn c.rv (rows7 a b m p q) ∧ RowsG (TRowIn c.tn) c.tv ((rows10 a b).take 8)) ?st10 ?_
  case st10 =>
    have hlaw := row_or ha0 ha1 hb0 hb1
    have BA := bitsN_Bits a 256
    have BB := bitsN_Bits b 256
    k_extra "my nt"
    (rename Fr _ _ _ _ => FC)
    (rename News _ _ _ _ => NC)
    refine' cutR FC [(tl, listOf tv.toArray tk0), (rl, listOf rv.toArray rn), (pl, { cls := .type "list", data := .seq its nc }), (lb, listOf vb.toArray nb)] tn NC (fun tn' v => TRowIn tn' v ("OR", [a, b], Builtin.bitOr a b)) ?rB ?_
    case rB =>
      k_extra "my comp"
      rw [eval_ListComp]
      refine' wpAny_comprehension_free (use := none) rfl ?cs ?cc rfl (by decide) ?_
      case cs => intro _; rfl
      case cc => with_unfolding_all rfl
      dsimp only [firstIter]
      k_extra "my comp"
      (rename Fr _ _ _ _ => F3)
      (rename News _ _ _ _ => N3)
      refine' compPairs (fun x y => x + y - x * y) F3 N3 rfl ?hm ?htn e2 ?hn ?hsz (by decide) rfl rfl rfl (by decide) ?el ?dn
      case hm => k_memK
      case htn => (intro p9 h9; k_extra "my own")
      case hn => rw [len_bits, len_bits]
      case hsz => (rw [len_bits]; decide)
      case el =>
        intro g2 i t u2 C D zs ep own h9 tk9 m' E' hkeep hi hm1 hm2 F' N' hD
        have B1 := BA.small i
        have B2 := BB.small i
        clear F3 N3 hkeep
        k_extra "my comp"
        refine CPost.intro (by assumption) (by assumption) (fun p9 h9 => by k_extra "my own") rfl
      case dn =>
        intro D h' tk' zs ep F' N' ne' hI'
        clear F3 N3
        (try dsimp only)
        k_extra "my words"
        (rename Fr _ _ _ _ => FB)
        (rename News _ _ _ _ => NB)
        refine' RPost.intro FB NB ?p1 ?p2 ?p3
        case p1 => k_extra "my led"
        case p2 => (intro p9 h9; k_extra "my own")
        case p3 => k_extra "my trow"
    clear FC NC
    intro v1 tn1 h1 tk1 F1 N1 S1 R1
    try dsimp only [List.cons_append, List.nil_append] at N1
    k_extra "my na"
    refine' append_row (hd := [(rl, listOf rv.toArray rn), (pl, { cls := .type "list", data := .seq its nc }), (lb, listOf vb.toArray nb)]) (rs := (rows10 a b).take 7) F1 N1 S1 e1.1 e1.2 R1 e4 (Nat.le_of_ble_eq_true rfl) (by rw [e4.length]; exact Nat.le_of_ble_eq_true rfl) ?_
    intro h2 tn2 F2 N2 S2 hne2 R2
    (try dsimp only)
    refine' SPost.intro F2 N2 ⟨lb, vb, nb, pl, its, nc, rl, rv, rn, tl, tv ++ [v1], tk0 + 1, tn2⟩ ?g1 (fun _ h => h) ?g3
    case g1 => k_extra "my rows"
    case g3 => exact ⟨e0, ⟨e1.1, hne2⟩, e2.mono S2, e3.mono fun _ _ h => h.mono S2, (e4.mono fun _ _ h => h.mono S2).snoc R2⟩
  clear e0 e1 e2 e3 e4
  rintro ⟨lb, vb, nb, pl, its, nc, rl, rv, rn, tl, tv, tk0, tn⟩ u h tk ee F1 N1
  clear F0 N0
  (try dsimp only at ee F1 N1)
  show wpAny _ _ _ _ _ { s with heap := h, toks := tk }
  refine and5 ee ?_
  clear ee
  intro e0 e1 e2 e3 e4
  refine nameF F1 ?_
  clear F1
  intro mm F1
  rename Fr _ _ _ _ => F0
  rename News _ _ _ _ => N0
  refine' seqS (σ := Rs11) F0 (fun c => ([("a", .int a t1), ("b", .int b t2), ("bits", .ref c.lb), ("pairs", .ref c.pl), ("rows_here", .ref c.rl), ("told_here", .ref c.tl)], (c.tl, listOf c.tv.toArray c.tk0) :: (c.rl, listOf c.rv.toArray c.rn) :: (c.pl, { cls := .type "list", data := .seq c.its c.nc }) :: (c.lb, listOf c.vb.toArray c.nb) :: c.tn)) (fun c => IntsAre c.vb (bitsN a 256) ∧ Offs c.tl c.rl c.pl c.lb c.tn ∧ PairsIn c.its (bitsN a 256) (bitsN b 256) c.tn ∧ RowsIn c.tn c.rv (rows7 a b m p q) ∧ RowsG (TRowIn c.tn) c.tv ((rows10 a b).take 9)) ?st11 ?_
  case st11 =>
    have hlaw := row_xor ha0 ha1 hb0 hb1
    have BA := bitsN_Bits a 256
    have BB := bitsN_Bits b 256
    k_extra "my nt"
    (rename Fr _ _ _ _ => FC)
    (rename News _ _ _ _ => NC)
    refine' cutR FC [(tl, listOf tv.toArray tk0), (rl, listOf rv.toArray rn), (pl, { cls := .type "list", data := .seq its nc }), (lb, listOf vb.toArray nb)] tn NC (fun tn' v => TRowIn tn' v ("XOR", [a, b], Builtin.bitXor a b)) ?rB ?_
    case rB =>
      k_extra "my comp"
      rw [eval_ListComp]
      refine' wpAny_comprehension_free (use := none) rfl ?cs ?cc rfl (by decide) ?_
      case cs => intro _; rfl
      case cc => with_unfolding_all rfl
      dsimp only [firstIter]
      k_extra "my comp"
      (rename Fr _ _ _ _ => F3)
      (rename News _ _ _ _ => N3)
      refine' compPairs (fun x y => (x + y).fmod 2) F3 N3 rfl ?hm ?htn e2 ?hn ?hsz (by decide) rfl rfl rfl (by decide) ?el ?dn
      case hm => k_memK
      case htn => (intro p9 h9; k_extra "my own")
      case hn => rw [len_bits, len_bits]
      case hsz => (rw [len_bits]; decide)
      case el =>
        intro g2 i t u2 C D zs ep own h9 tk9 m' E' hkeep hi hm1 hm2 F' N' hD
        have B1 := BA.small i
        have B2 := BB.small i
        clear F3 N3 hkeep
        k_extra "my comp"
        refine CPost.intro (by assumption) (by assumption) (fun p9 h9 => by k_extra "my own") rfl
      case dn =>
        intro D h' tk' zs ep F' N' ne' hI'
        clear F3 N3
        (try dsimp only)
        k_extra "my words"
        (rename Fr _ _ _ _ => FB)
        (rename News _ _ _ _ => NB)
        refine' RPost.intro FB NB ?p1 ?p2 ?p3
        case p1 => k_extra "my led"
        case p2 => (intro p9 h9; k_extra "my own")
        case p3 => k_extra "my trow"
    clear FC NC
    intro v1 tn1 h1 tk1 F1 N1 S1 R1
    try dsimp only [List.cons_append, List.nil_append] at N1
    k_extra "my na"
    refine' append_row (hd := [(rl, listOf rv.toArray rn), (pl, { cls := .type "list", data := .seq its nc }), (lb, listOf vb.toArray nb)]) (rs := (rows10 a b).take 8) F1 N1 S1 e1.1 e1.2 R1 e4 (Nat.le_of_ble_eq_true rfl) (by rw [e4.length]; exact Nat.le_of_ble_eq_true rfl) ?_
    intro h2 tn2 F2 N2 S2 hne2 R2
    (try dsimp only)
    refine' SPost.intro F2 N2 ⟨lb, vb, nb, pl, its, nc, rl, rv, rn, tl, tv ++ [v1], tk0 + 1, tn2⟩ ?g1 (fun _ h => h) ?g3
    case g1 => k_extra "my rows"
    case g3 => exact ⟨e0, ⟨e1.1, hne2⟩, e2.mono S2, e3.mono fun _ _ h => h.mono S2, (e4.mono fun _ _ h => h.mono S2).snoc R2⟩
  clear e0 e1 e2 e3 e4
  rintro ⟨lb, vb, nb, pl, its, nc, rl, rv, rn, tl, tv, tk0, tn⟩ u h tk ee F1 N1
  clear F0 N0
  (try dsimp only at ee F1 N1)
  show wpAny _ _ _ _ _ { s with heap := h, toks := tk }
  refine and5 ee ?_
  clear ee
  intro e0 e1 e2 e3 e4
  refine nameF F1 ?_
  clear F1
  intro mm F1
  rename Fr _ _ _ _ => F0
  rename News _ _ _ _ => N0
  refine' seqS (σ := Rs12) F0 (fun c => ([("a", .int a t1), ("b", .int b t2), ("bits", .ref c.lb), ("pairs", .ref c.pl), ("rows_here", .ref c.rl), ("told_here", .ref c.tl)], (c.tl, listOf c.tv.toArray c.tk0) :: (c.rl, listOf c.rv.toArray c.rn) :: (c.pl, { cls := .type "list", data := .seq c.its c.nc }) :: (c.lb, listOf c.vb.toArray c.nb) :: c.tn)) (fun c => IntsAre c.vb (bitsN a 256) ∧ Offs c.tl c.rl c.pl c.lb c.tn ∧ PairsIn c.its (bitsN a 256) (bitsN b 256) c.tn ∧ RowsIn c.tn c.rv (rows7 a b m p q) ∧ RowsG (TRowIn c.tn) c.tv ((rows10 a b).take 10)) ?st12 ?_
  case st12 =>
    have hlaw := row_not ha0 ha1
    have BA := bitsN_Bits a 256
    have BB := bitsN_Bits b 256
    k_extra "my nt"
    (rename Fr _ _ _ _ => FC)
    (rename News _ _ _ _ => NC)
    refine' cutR FC [(tl, listOf tv.toArray tk0), (rl, listOf rv.toArray rn), (pl, { cls := .type "list", data := .seq its nc }), (lb, listOf vb.toArray nb)] tn NC (fun tn' v => TRowIn tn' v ("NOT", [a], WORD - 1 - a)) ?rB ?_
    case rB =>
      k_extra "my comp"
      rw [eval_ListComp]
      refine' wpAny_comprehension_free (use := none) rfl ?cs ?cc rfl (by decide) ?_
      case cs => intro _; rfl
      case cc => with_unfolding_all rfl
      dsimp only [firstIter]
      k_extra "my comp"
      (rename Fr _ _ _ _ => F3)
      (rename News _ _ _ _ => N3)
      refine' compInts (fun x => 1 - x) F3 N3 rfl ?hm e0 ?hsz (by decide) rfl rfl ?el ?dn
      case hm => k_memK
      case hsz => (rw [len_bits]; decide)
      case el =>
        intro g2 i t C D zs ep own h9 tk9 m' E' hkeep hi hm1 F' N' hD
        have B1 := BA.small i
        clear F3 N3 hkeep
        k_extra "my comp"
        refine CPost.intro (by assumption) (by assumption) (fun p9 h9 => by k_extra "my own") rfl
      case dn =>
        intro D h' tk' zs ep F' N' ne' hI'
        clear F3 N3
        (try dsimp only)
        k_extra "my words"
        (rename Fr _ _ _ _ => FB)
        (rename News _ _ _ _ => NB)
        refine' RPost.intro FB NB ?p1 ?p2 ?p3
        case p1 => k_extra "my led"
        case p2 => (intro p9 h9; k_extra "my own")
        case p3 => k_extra "my trow"
    clear FC NC
    intro v1 tn1 h1 tk1 F1 N1 S1 R1
    try dsimp only [List.cons_append, List.nil_append] at N1
    k_extra "my na"
    refine' append_row (hd := [(rl, listOf rv.toArray rn), (pl, { cls := .type "list", data := .seq its nc }), (lb, listOf vb.toArray nb)]) (rs := (rows10 a b).take 9) F1 N1 S1 e1.1 e1.2 R1 e4 (Nat.le_of_ble_eq_true rfl) (by rw [e4.length]; exact Nat.le_of_ble_eq_true rfl) ?_
    intro h2 tn2 F2 N2 S2 hne2 R2
    (try dsimp only)
    refine' SPost.intro F2 N2 ⟨lb, vb, nb, pl, its, nc, rl, rv, rn, tl, tv ++ [v1], tk0 + 1, tn2⟩ ?g1 (fun _ h => h) ?g3
    case g1 => k_extra "my rows"
    case g3 => exact ⟨e0, ⟨e1.1, hne2⟩, e2.mono S2, e3.mono fun _ _ h => h.mono S2, (e4.mono fun _ _ h => h.mono S2).snoc R2⟩
  clear e0 e1 e2 e3 e4
  rintro ⟨lb, vb, nb, pl, its, nc, rl, rv, rn, tl, tv, tk0, tn⟩ u h tk ee F1 N1
  clear F0 N0
  (try dsimp only at ee F1 N1)
  show wpAny _ _ _ _ _ { s with heap := h, toks := tk }
  refine and5 ee ?_
  clear ee
  intro e0 e1 e2 e3 e4
  refine nameF F1 ?_
  clear F1
  intro mm F1
  k_extra "my comp"
  rw [eval_ListComp]
  refine' wpAny_comprehension_free (use := none) rfl ?cs ?cc rfl (by decide) ?_
  case cs => intro _; rfl
  case cc => with_unfolding_all rfl
  dsimp only [firstIter]
  k_extra "my comp"
  (rename Fr _ _ _ _ => F3)
  (rename News _ _ _ _ => N3)
  refine' compTrip (rs := rows10 a b) F3 N3 rfl ?hm ?htn e4 (by rw [sizeLine_eq]; exact Nat.le_of_ble_eq_true rfl) (by decide) rfl rfl rfl rfl (by decide) (by decide) (by decide) ?el ?dn
  case hm => k_memK
  case htn => (intro p9 h9; k_extra "my own")
  case el =>
    clear e0 e1 e2 e3 e4
    intro g2 nm Lw d dv tt C D zs ep own h9 tk9 m' E' hkeep hv m1 m2 m3 F' N' hD
    have X' := X.keeps hkeep
    have T' := T.keeps hkeep
    clear F3 N3 hkeep X T
    rcases hv with ⟨bv, rfl, rfl⟩ | ⟨td, rfl⟩
    · k_extra "my comp"
      exact TPost.intro (by assumption) (by assumption) (by k_memK) (fun p9 h9 => .tail _ h9) (by assumption) rfl rfl
    · k_extra "my comp"
      exact TPost.intro (by assumption) (by assumption) (by k_memK) (fun p9 h9 => .tail _ h9) (by assumption) rfl rfl
  case dn =>
    intro D h' tk' zs ep ac F' N' hr
    clear F3 N3
    (try dsimp only)
    dsimp only [List.cons_append] at N'
    k_extra "my words"
    have z1 := (N' (rl, listOf rv.toArray rn) (by k_memK)).1
    have z2 := (N' (D, listOf zs.toArray ep) (.head _)).1
    refine' add_arrays F' N' (its := rv.toArray) (its2 := zs.toArray) ⟨_, z1, rfl, _, rfl⟩ ⟨_, z2, rfl, _, rfl⟩ ?_ ?sz
    case sz =>
      rw [List.size_toArray, List.size_toArray, e3.length, hr.length, sizeLine_eq]; exact Nat.le_of_ble_eq_true rfl
    intro h2 F2 N2
    refine hQ _ _ _ F2.keep (PRows.of (rs := rows7 a b m p q) (qs := rows10 a b) (n := 0) N2 (.head _) rfl (fun p h => .tail _ (.tail _ (.tail _ (.tail _ (.tail _ (.tail _ (List.mem_append.mpr (.inl h)))))))) (fun p h => .tail _ (.tail _ h)) e3 hr)

end RoS
section SrS
theorem FSpec.le {w : World} {j k : Nat} {f : Addr} {args : List Value} {FR D ST : Addr} {g g' : Int} {rs rs' : List Int} {Post : Value → Prop} (S : FSpec w j f args FR D ST g rs g' rs' Post) (h : j ≤ k) : FSpec w k f args FR D ST g rs g' rs' Post :=
  fun s Q E dp un gd outer hR => S s Q E dp un gd outer (hR.le h)
theorem LSpec.le {w : World} {j k : Nat} {f : Addr} {args : List Value} {Pre : Heap → Prop} {r : Bool} (S : LSpec w j f args Pre r) (h : j ≤ k) : LSpec w k f args Pre r :=
  fun s Q E dp un outer hR => S s Q E dp un outer (hR.le h)
noncomputable def StepOk (w : World) (eo : Int) (l : Addr) (t1 t2 t3 : Tok) (r : Row) : Prop := LSpec w 14 712 [.str r.1 t1, .ref l, .int r.2.2 t2, .int eo t3] (fun h => IsL h l r.2.1) true
theorem row_plain {w : World} (nm : Str) (ws : List Int) (d : Int) (f l : Addr) (eo : Int) (t1 t2 t3 : Tok) (hn : (nm == ("EXP" : Str)) = false) (hv : valueAt (arithA ++ arithB) nm = some (.ref f)) (hkeep : keepIn (hd.heap_39 w.params) (.ref f) = true) (hlen : ws.length ≤ 10) {k : Nat} (hk : k ≤ 6)
    (S : ∀ FR D ST, FSpec w k f [.none, .ref FR] FR D ST 2000 (ws ++ [5]) 2000 [d, 5] (fun v => v = .none)) : StepOk w eo l t1 t2 t3 (nm, ws, d) :=
  LSpec.le (SpecC.toL (fun _ _ k x => x.keeps k) (step_plain nm f l ws d eo t1 t2 t3 hn hv hkeep hlen fun FR D ST => (S FR D ST).le hk)) (by decide)
theorem step_row {w : World} {a b m p q : Int} (ha0 : 0 ≤ a) (ha1 : a < WORD) (hb0 : 0 ≤ b) (hb1 : b < WORD) (hp0 : 0 ≤ p) (hp1 : p < WORD) (hq0 : 0 ≤ q) (hq1 : q < WORD) {eo : Int} (hc : 50 * eo = (50 * (((Builtin.Int.intBits b : Int) + 7).fdiv 8))) (hle : 50 * eo ≤ 2000) (l : Addr) (t1 t2 t3 : Tok) : ∀ r ∈ rows7 a b m p q ++ rows10 a b, StepOk w eo l t1 t2 t3 r := by
  unfold rows7 rows10
  refine List.forall_mem_append.mpr ⟨?_, ?_⟩
  all_goals (repeat' (first | exact List.forall_mem_nil _ | refine List.forall_mem_cons.mpr ⟨?_, ?_⟩))
  · exact row_plain "ADD" _ _ 375 l eo t1 t2 t3 (by decide +kernel) (by decide +kernel) (by k_is) (Nat.le_of_ble_eq_true rfl) (by decide : 3 ≤ 6) fun FR D ST => op_add_spec FR D ST 2000 a b
  · exact row_plain "MUL" _ _ 382 l eo t1 t2 t3 (by decide +kernel) (by decide +kernel) (by k_is) (Nat.le_of_ble_eq_true rfl) (by decide : 5 ≤ 6) fun FR D ST => op_mul_spec FR D ST 2000 a b ha0 ha1 hb0 hb1
  · exact row_plain "SUB" _ _ 389 l eo t1 t2 t3 (by decide +kernel) (by decide +kernel) (by k_is) (Nat.le_of_ble_eq_true rfl) (by decide : 5 ≤ 6) fun FR D ST => op_sub_spec FR D ST 2000 a b ha0 ha1 hb0 hb1
  · exact row_plain "DIV" _ _ 396 l eo t1 t2 t3 (by decide +kernel) (by decide +kernel) (by k_is) (Nat.le_of_ble_eq_true rfl) (by decide : 5 ≤ 6) fun FR D ST => op_div_spec FR D ST 2000 a b ha0 ha1 hb0 hb1
  · exact row_plain "MOD" _ _ 410 l eo t1 t2 t3 (by decide +kernel) (by decide +kernel) (by k_is) (Nat.le_of_ble_eq_true rfl) (by decide : 5 ≤ 6) fun FR D ST => op_mod_spec FR D ST 2000 a b ha0 ha1 hb0 hb1
  · exact row_plain "SDIV" _ _ 403 l eo t1 t2 t3 (by decide +kernel) (by decide +kernel) (by k_is) (Nat.le_of_ble_eq_true rfl) (by decide : 5 ≤ 6) fun FR D ST => op_sdiv_spec FR D ST 2000 a b ha0 ha1 hb0 hb1
  · exact row_plain "SMOD" _ _ 417 l eo t1 t2 t3 (by decide +kernel) (by decide +kernel) (by k_is) (Nat.le_of_ble_eq_true rfl) (by decide : 5 ≤ 6) fun FR D ST => op_smod_spec FR D ST 2000 a b ha0 ha1 hb0 hb1
  · exact row_plain "ADDMOD" _ _ 424 l eo t1 t2 t3 (by decide +kernel) (by decide +kernel) (by k_is) (Nat.le_of_ble_eq_true rfl) (by decide : 5 ≤ 6) fun FR D ST => op_addmod_spec FR D ST 2000 a b m ha0 ha1 hb0 hb1
  · exact row_plain "MULMOD" _ _ 431 l eo t1 t2 t3 (by decide +kernel) (by decide +kernel) (by k_is) (Nat.le_of_ble_eq_true rfl) (by decide : 5 ≤ 6) fun FR D ST => op_mulmod_spec FR D ST 2000 a b m ha0 ha1 hb0 hb1
  · exact step_exp l a b eo t1 t2 t3 ha0 ha1 hb0 hb1 hc hle
  · exact row_plain "SIGNEXTEND" _ _ 445 l eo t1 t2 t3 (by decide +kernel) (by decide +kernel) (by k_is) (Nat.le_of_ble_eq_true rfl) (by decide : 5 ≤ 6) fun FR D ST => op_signextend_spec FR D ST 2000 q a hq0 hq1 ha0 ha1
  · exact row_plain "BYTE" _ _ 522 l eo t1 t2 t3 (by decide +kernel) (by decide +kernel) (by k_is) (Nat.le_of_ble_eq_true rfl) (by decide : 5 ≤ 6) fun FR D ST => op_byte_spec FR D ST 2000 q a hq0 hq1 ha0 ha1
  · exact row_plain "SHL" _ _ 529 l eo t1 t2 t3 (by decide +kernel) (by decide +kernel) (by k_is) (Nat.le_of_ble_eq_true rfl) (by decide : 5 ≤ 6) fun FR D ST => op_shl_spec FR D ST 2000 p a hp0 hp1 ha0 ha1
  · exact row_plain "SHR" _ _ 536 l eo t1 t2 t3 (by decide +kernel) (by decide +kernel) (by k_is) (Nat.le_of_ble_eq_true rfl) (by decide : 5 ≤ 6) fun FR D ST => op_shr_spec FR D ST 2000 p a hp0 hp1 ha0 ha1
  · exact row_plain "SAR" _ _ 543 l eo t1 t2 t3 (by decide +kernel) (by decide +kernel) (by k_is) (Nat.le_of_ble_eq_true rfl) (by decide : 5 ≤ 6) fun FR D ST => op_sar_spec FR D ST 2000 p a hp0 hp1 ha0 ha1
  · exact row_plain "LT" _ _ 452 l eo t1 t2 t3 (by decide +kernel) (by decide +kernel) (by k_is) (Nat.le_of_ble_eq_true rfl) (by decide : 5 ≤ 6) fun FR D ST => op_lt_spec FR D ST 2000 a b ha0 ha1 hb0 hb1
  · exact row_plain "GT" _ _ 459 l eo t1 t2 t3 (by decide +kernel) (by decide +kernel) (by k_is) (Nat.le_of_ble_eq_true rfl) (by decide : 5 ≤ 6) fun FR D ST => op_gt_spec FR D ST 2000 a b ha0 ha1 hb0 hb1
  · exact row_plain "EQ" _ _ 480 l eo t1 t2 t3 (by decide +kernel) (by decide +kernel) (by k_is) (Nat.le_of_ble_eq_true rfl) (by decide : 5 ≤ 6) fun FR D ST => op_eq_spec FR D ST 2000 a b ha0 ha1 hb0 hb1
  · exact row_plain "SLT" _ _ 466 l eo t1 t2 t3 (by decide +kernel) (by decide +kernel) (by k_is) (Nat.le_of_ble_eq_true rfl) (by decide : 5 ≤ 6) fun FR D ST => op_slt_spec FR D ST 2000 a b ha0 ha1 hb0 hb1
  · exact row_plain "SGT" _ _ 473 l eo t1 t2 t3 (by decide +kernel) (by decide +kernel) (by k_is) (Nat.le_of_ble_eq_true rfl) (by decide : 5 ≤ 6) fun FR D ST => op_sgt_spec FR D ST 2000 a b ha0 ha1 hb0 hb1
  · exact row_plain "ISZERO" _ _ 487 l eo t1 t2 t3 (by decide +kernel) (by decide +kernel) (by k_is) (Nat.le_of_ble_eq_true rfl) (by decide : 5 ≤ 6) fun FR D ST => op_iszero_spec FR D ST 2000 a b ha0 ha1 hb0 hb1
  · exact row_plain "AND" _ _ 494 l eo t1 t2 t3 (by decide +kernel) (by decide +kernel) (by k_is) (Nat.le_of_ble_eq_true rfl) (by decide : 5 ≤ 6) fun FR D ST => op_and_spec FR D ST 2000 a b ha0 ha1 hb0 hb1
  · exact row_plain "OR" _ _ 501 l eo t1 t2 t3 (by decide +kernel) (by decide +kernel) (by k_is) (Nat.le_of_ble_eq_true rfl) (by decide : 5 ≤ 6) fun FR D ST => op_or_spec FR D ST 2000 a b ha0 ha1 hb0 hb1
  · exact row_plain "XOR" _ _ 508 l eo t1 t2 t3 (by decide +kernel) (by decide +kernel) (by k_is) (Nat.le_of_ble_eq_true rfl) (by decide : 5 ≤ 6) fun FR D ST => op_xor_spec FR D ST 2000 a b ha0 ha1 hb0 hb1
  · exact row_plain "NOT" _ _ 515 l eo t1 t2 t3 (by decide +kernel) (by decide +kernel) (by k_is) (Nat.le_of_ble_eq_true rfl) (by decide : 5 ≤ 6) fun FR D ST => op_not_spec FR D ST 2000 a b ha0 ha1 hb0 hb1

end SrS
section LdS
section
open MineH
variable {w : World} {s : Shared} {Q E : Value → Shared → Prop} {n dp un : Nat} {fa : Addr} {o : Obj} {pm cd doc dV kV : Value} {name : Str} {params : Arguments} {body : List Stmt} {scope : Scope} {args : List Value} {binds : List (Str × Value)} {mean : ExcName → Option Value} {mg mb : Str → Option Value}
theorem lEnter (ho : s.heap.get? fa = some o) (hd' : o.data = .func { docDef name params body scope pm cd doc with defaults := dV, kwdefaults := kV }) (hcd : s.heap.CodeRec cd name) (T : Top VW LS mean mg mb s.heap)
    (hbind : BindsTo s { docDef name params body scope pm cd doc with defaults := dV, kwdefaults := kV } ⟨args, []⟩ binds) (hloc : ∀ y ∈ binds, scope.names.lookup y.1 = some .local)
    (h : ∀ L' h₁, Fr s.heap L' h₁ (fun y => binds.reverse.lookup y) → News s.heap L' h₁ [] → Room 60 302 7 →
      wpC (model PR w) (mkA 302 7 (some []) [envOf name scope L' fa cd]) (execs body (envOf name scope L' fa cd)) (fun fl s' => Q (match fl with | .ret v => v | _ => .none) s') NoE { s with heap := h₁, toks := s.toks + binds.length })
    (hco : scope.isCoroutine = false) (hgen : scope.isGenerator = false) (hk : scope.kind = .function)
    (hcell : ∀ x ∈ scope.names, x.2 ≠ .cell) : wpC (model PR w) callerA (call (.ref fa) args) Q E s := by
  refine c_call (cc_call_def (A := callerA) (fd := { docDef name params body scope pm cd doc with defaults := dV, kwdefaults := kV }) (body := body) (binds := binds) (by decide) ho hd' T.nolimit hcd rfl hbind hcell hloc (fun h₁ hns hk₁ => ?_) hco hgen hk)
  exact c_mono (h s.heap.objs.size h₁ ⟨hns, hk₁, Nat.le_refl _⟩ News.nil ⟨by decide, by decide⟩) (fun _ _ z => z) fun _ _ z => z.elim
end
section
open MineH
variable {σ : Type} {prog : Program} {w : World} {A : Around} {E : Value → Shared → Prop} {Q : Flow → Shared → Prop} {s : Shared} {env : Env} {g : Heap} {L : Addr}
theorem cseqS {st : Stmt} {rest : List Stmt} {m₀ : Str → Option Value} (_F : Fr g L s.heap m₀) (St : σ → List (Str × Value) × List (Addr × Obj)) (I : σ → Prop) (h : wpAny (model prog w) A (exec st env) (SPost g L s St I) E s)
    (hr : ∀ c u h tk, I c → Fr g L h (kB u (St c).1) → News g L h (St c).2 → wpC (model prog w) A (execs rest env) Q E { s with heap := h, toks := tk }) : wpC (model prog w) A (execs (st :: rest) env) Q E s := by
  refine c_execs_cons (c_mono (c_any h) (fun f s' hp => ?_) fun _ _ z => z)
  obtain ⟨rfl, c, h', tk, m', news', rfl, F, N, h1, h2, h3⟩ := hp
  exact hr c m' h' tk h3 (fr_names h1 F) fun p hp => N p (h2 p hp)
theorem isl_hide {C W : Addr} {vc : List Value} {n : Nat} {cs : List Int} {h : Heap} {news : List (Addr × Obj)} (N : News g L h news) (hm : (C, listOf vc.toArray n) ∈ news) (hi : IntsAre vc cs) (hne : @Ne Nat C W) : IsL (hideAll h [W]) C cs :=
  ⟨vc, n, hideAll_get _ (N _ hm).1 (by simpa using hne), hi⟩
end
section
open MineH
variable {w : World} {s : Shared} {Q E : Value → Shared → Prop} {k n dp un : Nat} {f a : Addr} {args : List Value} {Pre : Heap → Prop}
  {g : Heap} {L : Addr} {m : Str → Option Value} {news : List (Addr × Obj)} {mean : ExcName → Option Value} {mg mb : Str → Option Value} {r : Bool} {name : Str} {scope : Scope} {cd : Value}
theorem LSpec.useN (S : LSpec w k f args Pre r) (R : Room n dp un) (F : Fr g L s.heap m) (N : News g L s.heap news) (X : (hd.heap_39 w.params).In g) (T : Top VW LS mean mg mb g) (hp : Pre (hideAll s.heap [L])) (hk : k ≤ n) (hkind : scope.kind ≠ .module)
    (h : ∀ h' tk, Fr g L h' m → News g L h' news → Q (.bool r) { s with heap := h', toks := tk }) : wpC (model PR w) (mkA dp un (some []) [envOf name scope L a cd]) (call (.ref f) args) Q E s := by
  have hg : g.get? L = none := by
    cases e : g.get? L with
    | none => rfl
    | some o => exact absurd (Heap.lt_size e) (Nat.not_lt.mpr F.above)
  have kb : Ext g (hideAll s.heap [L]) := fun b o q => hideAll_get _ (F.keep b o q) (by
    intro hm; rw [List.mem_singleton.mp hm, hg] at q; cases q)
  obtain ⟨oL, esL, epL, hoL, hdL, _⟩ := F.ns
  have hff : s.heap.FunFrames (hideAll s.heap [L]) [envOf name scope L a cd] := ⟨hkind, ⟨L, oL, rfl, hideAll_none _ (List.mem_singleton.mpr rfl), hoL, fun vs z => by rw [hdL] at z; cases z⟩, trivial⟩
  exact S s Q E dp un _ (R.le hk) ⟨X.keeps kb, _, _, _, T.keeps kb⟩ hff hp fun h' tk hE up => h h' tk (F.of_stays (fun b o q => hE b o (kb b o q)) up) fun p hp =>
    ⟨hE _ _ (hideAll_get _ (N p hp).1 (by intro hm; exact (N p hp).2.1 (List.mem_singleton.mp hm))), (N p hp).2⟩
end
theorem kB_two {m' : Str → Option Value} {x₁ x₂ x₃ x₄ x0 : Str} {v₁ v₂ v₃ v₄ v0 : Value} (hm' : m' x0 = some v0) : kB (kB m' [(x₄, v₄), (x₃, v₃), (x₂, v₂), (x₁, v₁)]) [(x₄, v₄), (x₃, v₃), (x₂, v₂), (x₁, v₁), (x0, v0)] = kB m' [(x₄, v₄), (x₃, v₃), (x₂, v₂), (x₁, v₁)] := by
  funext z
  have go : ∀ {P : Prop} [Decidable P] {a b c d : Option Value}, (P → a = c) → (¬ P → b = d) → (if P then a else b) = if P then c else d := fun {P} _ {a b c d} h k => by
    by_cases p : P
    · rw [if_pos p, if_pos p]; exact h p
    · rw [if_neg p, if_neg p]; exact k p
  refine go (fun _ => rfl) fun n4 => go (fun _ => rfl) fun n3 => go (fun _ => rfl) fun n2 => go (fun _ => rfl) fun n1 => ?_
  show (if z = x0 then some v0 else if z = x₄ then _ else if z = x₃ then _ else if z = x₂ then _ else if z = x₁ then _ else _) = _
  by_cases e : z = x0
  · rw [if_pos e, e]; exact hm'.symm
  · rw [if_neg e, if_neg n4, if_neg n3, if_neg n2, if_neg n1]
section
open MineH
variable {prog : Program} {w : World} {A : Around} {env : Env} {g : Heap} {L : Addr} {m : Str → Option Value} {ge : Array GenState} {dr : Drawn} {os : OsState} {Q : Flow → Shared → Prop} {body : List Stmt}
theorem asg4 {E : Value → Shared → Prop} {x x₂ x₃ x₄ : Str} {px px₂ px₃ px₄ tp : Pos} {k} {t : Addr} {v₁ v₂ v₃ v₄ : Value} {s : Shared} {Q : Unit → Shared → Prop} {n : Nat} (hh : A.handled = none) (hx : env.kindOf x = some .local) (hx₂ : env.kindOf x₂ = some .local) (hx₃ : env.kindOf x₃ = some .local) (hx₄ : env.kindOf x₄ = some .local)
    (hp : (env.scope.kind == .class || (env.scope.kind == .module && env.locals != env.globals)) = false) (hL : env.locals = L) (F : Fr g L s.heap m) (ht : s.heap.get? t = some { cls := .type "tuple", data := .seq #[v₁, v₂, v₃, v₄] n })
    (h : ∀ h' tk', Fr g L h' (kB m [(x₄, v₄), (x₃, v₃), (x₂, v₂), (x, v₁)]) → (∀ b o, b ≠ L → s.heap.get? b = some o → h'.get? b = some o) → Q () { s with heap := h', toks := tk' }) :
    wpAny (model prog w) A (assign (.Tuple [.Name x px, .Name x₂ px₂, .Name x₃ px₃, .Name x₄ px₄] k tp) env (.ref t)) Q E s := by
  subst hL
  refine assign_Tuple_tuple (items := #[v₁, v₂, v₃, v₄]) hh ⟨_, ht, rfl, n, rfl⟩ rfl rfl fun h₅ he => ?_
  have he' : ∀ b o, s.heap.get? b = some o → h₅.get? b = some o := fun b o e => he b o (Nat.ne_of_lt (Heap.lt_size e)) e
  refine assignInOrder_cons (wpAny_assign_Name (wpAny_storeName_local hx ((F.keeps he').ns) (fun h₆ hn₆ hs₆ => ?_) hp))
  refine assignInOrder_cons (wpAny_assign_Name (wpAny_storeName_local hx₂ hn₆ (fun h₇ hn₇ hs₇ => ?_) hp))
  refine assignInOrder_cons (wpAny_assign_Name (wpAny_storeName_local hx₃ hn₇ (fun h₈ hn₈ hs₈ => ?_) hp))
  refine assignInOrder_cons (wpAny_assign_Name (wpAny_storeName_local hx₄ hn₈ (fun h₉ hn₉ hs₉ => ?_) hp))
  refine assignInOrder_nil (h h₉ _ (((((F.keeps he').set hn₆ hs₆).set hn₇ hs₇).set hn₈ hs₈).set hn₉ hs₉) fun b o hb e => hs₉.extBut b o hb (hs₈.extBut b o hb (hs₇.extBut b o hb (hs₆.extBut b o hb (he' b o e)))))
noncomputable def RBody (g : Heap) (L : Addr) (tn : List (Addr × Obj)) (x0 : Str) (v0 : Value) (ge : Array GenState) (dr : Drawn) (os : OsState) (f : Flow) (s₃ : Shared) : Prop :=
  f = .next ∧ ∃ h' tk' m', s₃ = ⟨h', ge, dr, tk', os⟩ ∧ Fr g L h' m' ∧ News g L h' tn ∧ m' x0 = some v0
theorem rows_loop {x x₂ x₃ x₄ x0 : Str} {v0 : Value} {px px₂ px₃ px₄ tp : Pos} {k} {l : Addr} {vs : List Value} {n : Nat} {tn : List (Addr × Obj)} {rs : List Row} {h0 : Heap} {tk0 : Nat} (hh : A.handled = none) (hx : env.kindOf x = some .local) (hx₂ : env.kindOf x₂ = some .local) (hx₃ : env.kindOf x₃ = some .local) (hx₄ : env.kindOf x₄ = some .local)
    (hp : (env.scope.kind == .class || (env.scope.kind == .module && env.locals != env.globals)) = false) (hL : env.locals = L) (F : Fr g L h0 m) (N : News g L h0 ((l, listOf vs.toArray n) :: tn)) (hR : RowsG (RowIn tn) vs rs) (hm0 : m x0 = some v0) (n1 : x0 ≠ x) (n2 : x0 ≠ x₂) (n3 : x0 ≠ x₃) (n4 : x0 ≠ x₄)
    (turn : ∀ tn' r Lw wv nn due t1 t2 t3 h tk u, r ∈ rs → Is due r.2.2 → (Lw, listOf (List.toArray wv) nn) ∈ tn' → IntsAre wv r.2.1 → Fr g L h (kB u [(x₄, .int r.2.2 t3), (x₃, .int due t2), (x₂, .ref Lw), (x, .str r.1 t1), (x0, v0)]) → News g L h tn' →
      wpC (model prog w) A (execs body env) (RBody g L tn' x0 v0 ge dr os) NoE ⟨h, ge, dr, tk, os⟩)
    (done : ∀ h tk m', Fr g L h m' → Q .next ⟨h, ge, dr, tk, os⟩) :
    wpAny (model prog w) A (pyIter (.ref l)) (fun it s₂ => ∃ (I : Nat → Shared → Prop) (n : Nat), I n s₂ ∧
      ∀ n s, I n s → wpAny (model prog w) A (pyNext it) (fun r s₁ => match r with
        | none => Q .next s₁
        | some v => wpAny (model prog w) A (letOwnedTupleGo (.Tuple [.Name x px, .Name x₂ px₂, .Name x₃ px₃, .Name x₄ px₄] k tp) it v) (fun _ s₁' => wpAny (model prog w) A (assign (.Tuple [.Name x px, .Name x₂ px₂, .Name x₃ px₃, .Name x₄ px₄] k tp) env v) (fun _ s₂ => wpC (model prog w) A (execs body env) (fun f s₃ => match f with
          | .next | .cont => ∃ m, m < n ∧ I m s₃
          | .brk => Q .next s₃
          | .ret v => Q (.ret v) s₃) NoE s₂) NoE s₁') NoE s₁) NoE s) NoE ⟨h0, ge, dr, tk0, os⟩ := by
  have zl := N _ (.head _)
  have hlt : l < h0.objs.size := Heap.lt_size zl.1
  have hl0 : h0.IsList l vs.toArray := ⟨_, zl.1, rfl, n, rfl⟩
  refine wpAny_pyIter_list hl0 ?_
  have up : ∀ b o, h0.get? b = some o → (h0.push { cls := .type "list_iterator", data := .fields #[.ref l, .int 0 0] }).get? b = some o := fun b o e => Heap.get?_push_of_some _ e
  have hIL : @Ne Nat L h0.objs.size := Nat.ne_of_lt F.ns.lt
  have hIg : g.get? h0.objs.size = none := by
    cases e : g.get? h0.objs.size with
    | none => rfl
    | some o => exact absurd (Heap.lt_size (F.keep _ _ e)) (Nat.lt_irrefl _)
  have hIn : ∀ p ∈ (l, listOf vs.toArray n) :: tn, @Ne Nat p.1 h0.objs.size := fun p hp => Nat.ne_of_lt (Heap.lt_size (N p hp).1)
  have hne : @Ne Nat l h0.objs.size := Nat.ne_of_lt hlt
  refine ⟨fun k s' => ∃ (i : Nat) (h : Heap) (tk : Nat) (m' : Str → Option Value), s' = ⟨h, ge, dr, tk, os⟩ ∧ k = vs.length + 1 - i ∧ i ≤ vs.length ∧ Fr g L h m' ∧ News g L h ((l, listOf vs.toArray n) :: tn) ∧ h.IsListIter h0.objs.size l i ∧ m' x0 = some v0,
    vs.length + 1, ⟨0, _, _, m, rfl, rfl, Nat.zero_le _, F.keeps up, N.grown up, ⟨_, Heap.get?_push_size _ rfl, rfl, rfl⟩, hm0⟩, ?_⟩
  generalize h0.objs.size = I0 at hIL hIg hIn hne
  intro k s' hI9
  refine nameP ?_
  intro GG
  obtain ⟨i, h, tk, m', es9, ek9, hi, F', N', hit, hm'⟩ := hI9
  unfold GG
  clear GG
  subst es9 ek9
  have hlist : h.IsList l vs.toArray := ⟨_, (N' _ (.head _)).1, rfl, n, rfl⟩
  have W := Walks.list (prog := prog) (w := w) (A := A) hh I0 l hne vs.toArray
  by_cases hlt : i < vs.length
  · refine W.item i _ _ _ (by simpa using hlt) ⟨hit, hlist⟩ fun v h₂ tk₂ hP hS₂ hk₂ => ?_
    refine nameP ?_
    intro GG
    obtain ⟨r, hr, T, t1, Lw, wv, nn, t2, t3, due, ev9, e2, e3, e4, e5⟩ := hR.get (show vs[i]? = some v by simpa using hP)
    unfold GG
    clear GG
    subst ev9
    have F₂ : Fr g L h₂ m' := ⟨F'.ns.at' fun o e => hk₂ _ o (by simpa using hIL) e, fun b o e => hk₂ b o (by
      intro hm; rw [List.mem_singleton.mp hm, hIg] at e; cases e) (F'.keep b o e), F'.above⟩
    have N₂ : News g L h₂ ((l, listOf vs.toArray n) :: tn) := fun p hp => ⟨hk₂ _ _ (by simpa using hIn p hp) (N' p hp).1, (N' p hp).2⟩
    refine wpAny_letOwnedTupleGo_listiter hS₂.1 ?_
    refine asg4 hh hx hx₂ hx₃ hx₄ hp hL F₂ (N₂ _ (.tail _ e2)).1 fun h₃ tk₃ F₃ hk₃ => ?_
    obtain ⟨oI, hoI, q1, q2⟩ := hS₂.1
    have N₃ : News g L h₃ ((I0, oI) :: (l, listOf vs.toArray n) :: tn) := fun p hp => by
      rcases List.mem_cons.mp hp with rfl | hp
      · exact ⟨hk₃ _ _ (Ne.symm hIL) hoI, Ne.symm hIL, hIg⟩
      · exact ⟨hk₃ _ _ (N₂ p hp).2.1 (N₂ p hp).1, (N₂ p hp).2⟩
    have F₄ : Fr g L h₃ (kB (kB m' [(x₄, .int r.2.2 t3), (x₃, .int due t2), (x₂, .ref Lw), (x, .str r.1 t1)]) [(x₄, .int r.2.2 t3), (x₃, .int due t2), (x₂, .ref Lw), (x, .str r.1 t1), (x0, v0)]) := by
      rw [kB_two hm']; exact F₃
    refine c_mono (turn _ r Lw wv nn due t1 t2 t3 h₃ tk₃ _ (List.mem_of_getElem? hr) e5 (.tail _ (.tail _ e3)) e4 F₄ N₃) (fun f s₃ hb => ?_) fun _ _ z => z
    refine nameP ?_
    intro GG
    obtain ⟨ef9, h₅, tk₅, m₅, es9, F₅, N₅, hm₅⟩ := hb
    unfold GG
    clear GG
    subst ef9 es9
    exact ⟨vs.length + 1 - (i + 1), by (first | lia | omega), i + 1, h₅, tk₅, m₅, rfl, rfl, hlt, F₅, fun p hp => N₅ p (.tail _ hp), ⟨oI, (N₅ _ (.head _)).1, q1, q2⟩, hm₅⟩
  · have hi' : i = vs.length := by (first | lia | omega)
    subst hi'
    refine W.done _ _ _ ⟨by simpa using hit, hlist⟩ fun h₂ tk₂ hk₂ => ?_
    exact done h₂ tk₂ m' ⟨F'.ns.at' fun o e => hk₂ _ o (by simpa using hIL) e, fun b o e => hk₂ b o (by
      intro hm; rw [List.mem_singleton.mp hm, hIg] at e; cases e) (F'.keep b o e), F'.above⟩
end
theorem news_all {g h h' : Heap} {L : Addr} {m : Str → Option Value} {news : List (Addr × Obj)} (F : Fr g L h m) (hn : ∀ p ∈ news, h'.get? p.1 = some p.2 ∧ h.get? p.1 = none) : News g L h' news := fun p hp => by
  obtain ⟨a, b⟩ := hn p hp
  refine ⟨a, fun q => ?_, ?_⟩
  · obtain ⟨oL, _, _, hL, _⟩ := F.ns
    rw [q, hL] at b; cases b
  · cases e : g.get? p.1 with
    | none => rfl
    | some o => have := F.keep _ _ e; rw [b] at this; cases this
noncomputable def FDone (g : Heap) (L : Addr) (ge : Array GenState) (dr : Drawn) (os : OsState) (f : Flow) (s' : Shared) : Prop := f = .next ∧ ∃ h tk m', s' = ⟨h, ge, dr, tk, os⟩ ∧ Fr g L h m'

end LdS
section LawS
theorem reg53 : True := by
  k_with "call ref" => ((k_here; (fail_if_success (fail_if_success (with_reducible show wpAny _ _ (call (Value.ref 686) _) _ _ _))); k_dflt (refine' Spec.useB (law_is_read_right_spec _ _ _ _ _ _ _ _ _ _ ?s0 ?s1 ?s2 ?s3 ?s4) ?kR ?kF ?kN ?kX ?kT ?kp ?kk ?_; k_extra "my ctx"; (case kp => k_extra "my list"); (case s0 => k_extra "my arg"); (case s1 => k_extra "my arg"); (case s2 => k_extra "my arg"); (case s3 => k_extra "my arg"); (case s4 => k_extra "my arg"); (case kk => decide); k_whole); intro h' tk' F' N'; (try k_sweep)))
  k_with "call ref" => ((k_here; (fail_if_success (fail_if_success (with_reducible show wpAny _ _ (call (Value.ref 578) _) _ _ _))); k_dflt (refine' MSpec.useH (law_word_spec _ _ _ ?sn) ?kR ?kF ?kN ?kX ?kT ?ki ?kr ?kr2 ?kc ?kk ?kne ?_; (case kF => k_asm); (case kN => assumption); (case kR => assumption); (case kX => k_asm); (case kT => k_asm); (case ki => assumption); (case kr => assumption); (case kr2 => assumption); (case kc => exact isl_hide (by assumption) (List.Mem.tail _ (List.Mem.head _)) (by assumption) (by assumption)); (case sn => assumption); (case kk => decide); (case kne => exact ⟨by assumption, trivial⟩); k_whole); intro v' h' tk' i' r' t' u' n' F' N' a1 a2 a3 hP'; refine nameP ?_; intro GG; obtain ⟨x', tx', e', b1, b2⟩ := hP'; unfold GG; clear GG; subst e'; (try k_sweep)))
  k_with "call ref" => ((k_here; (fail_if_success (fail_if_success (with_reducible show wpAny _ _ (call (Value.ref 585) _) _ _ _))); k_dflt (refine' MSpec.useH (law_second_spec _ _ _ _ _ ?s0 ?s1 ?sn) ?kR ?kF ?kN ?kX ?kT ?ki ?kr ?kr2 ?kc ?kk ?kne ?_; (case kF => k_asm); (case kN => assumption); (case kR => assumption); (case kX => k_asm); (case kT => k_asm); (case ki => assumption); (case kr => assumption); (case kr2 => assumption); (case kc => exact isl_hide (by assumption) (List.Mem.tail _ (List.Mem.head _)) (by assumption) (by assumption)); (case s0 => k_extra "my marg"); (case s1 => k_extra "my marg"); (case sn => assumption); (case kk => decide); (case kne => exact ⟨by assumption, trivial⟩); k_whole); intro v' h' tk' i' r' t' u' n' F' N' a1 a2 a3 hP'; refine nameP ?_; intro GG; obtain ⟨x', tx', e', b1, b2⟩ := hP'; unfold GG; clear GG; subst e'; (try k_sweep)))
  k_with "call ref" => ((k_here; (fail_if_success (fail_if_success (with_reducible show wpAny _ _ (call (Value.ref 592) _) _ _ _))); k_dflt (refine' MSpec.useH (law_count_spec _ _ _ _ _ ?s0 ?s1 ?sn) ?kR ?kF ?kN ?kX ?kT ?ki ?kr ?kr2 ?kc ?kk ?kne ?_; (case kF => k_asm); (case kN => assumption); (case kR => assumption); (case kX => k_asm); (case kT => k_asm); (case ki => assumption); (case kr => assumption); (case kr2 => assumption); (case kc => exact isl_hide (by assumption) (List.Mem.tail _ (List.Mem.head _)) (by assumption) (by assumption)); (case s0 => k_extra "my marg"); (case s1 => k_extra "my marg"); (case sn => assumption); (case kk => decide); (case kne => exact ⟨by assumption, trivial⟩); k_whole); intro v' h' tk' i' r' t' u' n' F' N' a1 a2 a3 hP'; refine nameP ?_; intro GG; obtain ⟨x', tx', e', b1, b2⟩ := hP'; unfold GG; clear GG; subst e'; (try k_sweep)))
  k_with "call ref" => ((k_here; (fail_if_success (fail_if_success (with_reducible show wpAny _ _ (call (Value.ref 599) _) _ _ _))); k_dflt (refine' MSpec.useH (law_whole_spec _ _ _ _ _ _ _ ?s0 ?s1 ?s2 ?s3 ?sn) ?kR ?kF ?kN ?kX ?kT ?ki ?kr ?kr2 ?kc ?kk ?kne ?_; (case kF => k_asm); (case kN => assumption); (case kR => assumption); (case kX => k_asm); (case kT => k_asm); (case ki => assumption); (case kr => assumption); (case kr2 => assumption); (case kc => exact isl_hide (by assumption) (List.Mem.tail _ (List.Mem.head _)) (by assumption) (by assumption)); (case s0 => k_extra "my marg"); (case s1 => k_extra "my marg"); (case s2 => k_extra "my marg"); (case s3 => k_extra "my marg"); (case sn => assumption); (case kk => decide); (case kne => exact ⟨by assumption, trivial⟩); k_whole); intro v' h' tk' i' r' t' u' n' F' N' a1 a2 a3 hP'; refine nameP ?_; intro GG; obtain ⟨x', tx', e', b1⟩ := hP'; unfold GG; clear GG; subst e'; (try k_sweep)))
  k_with "call ref" => ((k_here; (fail_if_success (fail_if_success (with_reducible show wpAny _ _ (call (Value.ref 604) _) _ _ _))); k_dflt (refine' MSpec.useH (law_octets_spec _ _ _ ?sn) ?kR ?kF ?kN ?kX ?kT ?ki ?kr ?kr2 ?kc ?kk ?kne ?_; (case kF => k_asm); (case kN => assumption); (case kR => assumption); (case kX => k_asm); (case kT => k_asm); (case ki => assumption); (case kr => assumption); (case kr2 => assumption); (case kc => exact isl_hide (by assumption) (List.Mem.tail _ (List.Mem.head _)) (by assumption) (by assumption)); (case sn => assumption); (case kk => decide); (case kne => exact ⟨by assumption, trivial⟩); k_whole); intro v' h' tk' i' r' t' u' n' F' N' a1 a2 a3 hP'; refine nameP ?_; intro GG; obtain ⟨y', ty', ks', e', b1, b2⟩ := hP'; unfold GG; clear GG; subst e'; (try k_sweep)))
  k_with "my marg" => (first | assumption | decide | k_extra "my om")
  k_with "my arg" => (first | with_reducible assumption | assumption | k_extra "my om")
  trivial
noncomputable def EoI (b : Int) (n : Nat) : Prop := n = 0 ∨ 256 ^ (n - 1) ≤ b
noncomputable def EoOk (b : Int) (n : Nat) : Prop := b < 256 ^ n ∧ EoI b n
theorem eo_lt {b : Int} {n : Nat} (h : 256 ^ n ≤ b) (hb : b < WORD) : n < 32 := by
  refine Nat.lt_of_not_le fun hn => ?_
  have h1 : (256 : Nat) ^ 32 ≤ 256 ^ n := Nat.pow_le_pow_right (by decide) hn
  have h2 : ((256 ^ 32 : Nat) : Int) = WORD := by decide +kernel
  have h3 : ((256 ^ 32 : Nat) : Int) ≤ ((256 ^ n : Nat) : Int) := Int.ofNat_le.mpr h1
  have h4 : ((256 ^ n : Nat) : Int) = (256 : Int) ^ n := by push_cast; rfl
  omega
structure Lw0 where
  W : Addr
  C : Addr
  i : Int
  r : Int
  t : Tok
  u : Tok
  n : Nat
  vc : List Value
  nc : Nat
  cs : List Int
structure Lw1 where
  W : Addr
  C : Addr
  i : Int
  r : Int
  t : Tok
  u : Tok
  n : Nat
  vc : List Value
  nc : Nat
  cs : List Int
  a : Int
  ta : Tok
structure Lw2 where
  W : Addr
  C : Addr
  i : Int
  r : Int
  t : Tok
  u : Tok
  n : Nat
  vc : List Value
  nc : Nat
  cs : List Int
  a : Int
  ta : Tok
  b : Int
  tb : Tok
  m : Int
  tm : Tok
structure Lw3 where
  W : Addr
  C : Addr
  i : Int
  r : Int
  t : Tok
  u : Tok
  n : Nat
  vc : List Value
  nc : Nat
  cs : List Int
  a : Int
  ta : Tok
  b : Int
  tb : Tok
  m : Int
  tm : Tok
  p : Int
  tp : Tok
  q : Int
  tq : Tok
structure Lw4 where
  a : Int
  ta : Tok
  b : Int
  tb : Tok
  m : Int
  tm : Tok
  p : Int
  tp : Tok
  q : Int
  tq : Tok
  x : Int
  tx : Tok
  y : Array UInt8
  ty : Tok
  ks : List Int
structure Lw5 where
  a : Int
  ta : Tok
  b : Int
  tb : Tok
  m : Int
  tm : Tok
  p : Int
  tp : Tok
  q : Int
  tq : Tok
structure Lw6 where
  a : Int
  ta : Tok
  b : Int
  tb : Tok
  m : Int
  tm : Tok
  p : Int
  tp : Tok
  q : Int
  tq : Tok
  te : Tok
structure Lw7 where
  a : Int
  ta : Tok
  b : Int
  tb : Tok
  m : Int
  tm : Tok
  p : Int
  tp : Tok
  q : Int
  tq : Tok
  eo : Nat
  te : Tok
theorem reg54 : True := by
  k_with "my facts" => ((dsimp only; (repeat' (first | with_reducible assumption | k_extra "my om" | with_reducible refine And.intro ?_ ?_))))
  trivial
theorem law_holds : PySem.Challenge.rw_pq0409_01.Holds := by
  refine hd ?_
  k_fill
  intro w s₀ s₁ mg mb G Y fa o pm cd doc dV kV ho hd' hcd hD hmg hg args vals as hpre hlay hrd hwl hlo
  have X := kIn_of Y
  refine Ground.open G ?_
  intro T B D TE TW
  clear B D TE TW hmg Y G
  have he := Dflts.none hD rfl
  subst he
  have he := Dflts.noKw hD
  subst he
  clear hD
  wrow_args hpre hlay hrd hwl hlo
  rename IntsAre _ _ => hI
  rename Heap.IsList _ _ _ => hL
  rename ReadsAll _ _ _ _ => ra
  clear ra
  rename Well _ _ _ _ => w1
  clear w1
  rename Reads _ _ _ _ => r0
  clear r0
  rename ReadsAllW _ _ _ _ _ _ => hr
  clear hr
  rename_i ns _ _ _ _ _ _ _ l0 vs0 _ _ _
  refine' lEnter (binds := [(Str.ofString "script", .ref l0)]) ho hd' hcd T ?hb ?hl ?_ ?h1 ?h2 ?h3 ?h4
  case hb => exact BindsTo.of_eq rfl
  case hl => exact locs rfl
  case h1 => rfl
  case h2 => rfl
  case h3 => rfl
  case h4 => decide
  clear ho hd' hcd
  intro L h₁ F N R
  (try (conv in (occs := *) (stB _) => all_goals whnf)); (try (conv in (occs := *) (stS _) => all_goals whnf))
  (try dsimp only)
  rename Fr _ _ _ _ => F0
  rename News _ _ _ _ => N0
  refine' cseqS (σ := Lw0) F0 (fun c => ([("well", .ref c.W)], (c.W, wellO c.C c.i c.r c.t c.u c.n) :: [(c.C, listOf c.vc.toArray c.nc)])) (fun c => 0 ≤ c.i ∧ 0 ≤ c.r ∧ c.r < 65537 ∧ IntsAre c.vc c.cs ∧ c.cs.length ≤ 60 ∧ @Ne Nat c.C c.W) ?st0 ?_
  case st0 =>
    k_extra "my comp"
    rw [eval_ListComp]
    refine' wpAny_comprehension_free (use := none) rfl ?cs ?cc rfl (by decide) ?_
    case cs => intro _; rfl
    case cc => with_unfolding_all rfl
    dsimp only [firstIter]
    k_extra "my comp"
    (rename Fr _ _ _ _ => F3)
    (rename News _ _ _ _ => N3)
    refine' compInts (fun n => n.fmod 2147483647) F3 N3 rfl ?hm ?hi ?hz (by decide) rfl rfl ?el ?dn
    case hm => k_memK
    case hi => l_ints
    case hz => (rw [sizeLine_eq]; simp only [List.length_take, List.length_drop]; omega)
    case el =>
      intro g2 i t C D zs ep own h9 tk9 m' E' hkeep hi hm1 F' N' hD
      have X' := X.keeps hkeep
      have T' := T.keeps hkeep
      clear F3 N3 hkeep X T
      k_extra "my comp"
      refine CPost.intro (by assumption) (by assumption) (fun p9 h9 => by k_extra "my own") rfl
    case dn =>
      intro D h' tk' zs ep F' N' ne' hI'
      clear F3 N3
      (try dsimp only)
      k_extra "my words"
      (try dsimp only)
      (rename Fr _ _ _ _ => F9)
      (rename News _ _ _ _ => N9)
      refine' SPost.intro F9 N9 ⟨_, D, 0, 40007, _, _, _, zs, ep, _⟩ ?g1 ?g2 ⟨Int.le_refl 0, (by decide : (0:Int) ≤ 40007), (by decide : (40007:Int) < 65537), hI', ?len, ?ne⟩
      case g1 => k_extra "my rows"
      case g2 => k_extra "my led"
      case len => (simp only [List.length_map, List.length_take]; omega)
      case ne => first | exact Nat.ne_of_lt (And.left (by assumption)) | omega
  rintro ⟨W, C, i, r, t, u, n, vc, nc, cs⟩ uu hh tk ee F1 N1
  clear F0 N0
  (try dsimp only at ee F1 N1)
  show MineH.wpC _ _ _ _ _ { s₁ with heap := hh, toks := tk }
  refine and6 ee ?_
  clear ee
  intro e0 e1 e2 e3 e4 e5
  refine nameF F1 ?_
  clear F1
  intro mm F1
  rename Fr _ _ _ _ => F0
  rename News _ _ _ _ => N0
  refine' cseqS (σ := Lw1) F0 (fun c => ([("well", .ref c.W), ("a", .int c.a c.ta)], (c.W, wellO c.C c.i c.r c.t c.u c.n) :: [(c.C, listOf c.vc.toArray c.nc)])) (fun c => 0 ≤ c.i ∧ 0 ≤ c.r ∧ c.r < 65537 ∧ IntsAre c.vc c.cs ∧ c.cs.length ≤ 60 ∧ @Ne Nat c.C c.W ∧ 0 ≤ c.a ∧ c.a < WORD) ?st1 ?_
  case st1 =>
    k_extra "my words"
    (try dsimp only)
    (rename Fr _ _ _ _ => F9)
    (rename News _ _ _ _ => N9)
    refine' SPost.intro F9 N9 ⟨_, _, _, _, _, _, _, _, _, _, _, _⟩ ?g1 ?g2 ?g3
    case g1 => k_extra "my rows"
    case g2 => k_extra "my led"
    case g3 => k_extra "my facts"
  clear e0 e1 e2 e3 e4 e5
  rintro ⟨W, C, i, r, t, u, n, vc, nc, cs, a, ta⟩ uu hh tk ee F1 N1
  clear F0 N0
  (try dsimp only at ee F1 N1)
  show MineH.wpC _ _ _ _ _ { s₁ with heap := hh, toks := tk }
  refine and8 ee ?_
  clear ee
  intro e0 e1 e2 e3 e4 e5 e6 e7
  refine nameF F1 ?_
  clear F1
  intro mm F1
  rename Fr _ _ _ _ => F0
  rename News _ _ _ _ => N0
  refine' cseqS (σ := Lw2) F0 (fun c => ([("well", .ref c.W), ("a", .int c.a c.ta), ("b", .int c.b c.tb), ("m", .int c.m c.tm)], (c.W, wellO c.C c.i c.r c.t c.u c.n) :: [(c.C, listOf c.vc.toArray c.nc)])) (fun c => 0 ≤ c.i ∧ 0 ≤ c.r ∧ c.r < 65537 ∧ IntsAre c.vc c.cs ∧ c.cs.length ≤ 60 ∧ @Ne Nat c.C c.W ∧ 0 ≤ c.a ∧ c.a < WORD ∧ 0 ≤ c.b ∧ c.b < WORD ∧ 0 ≤ c.m ∧ c.m < WORD) ?st2 ?_
  case st2 =>
    k_extra "my words"
    (try dsimp only)
    (rename Fr _ _ _ _ => F9)
    (rename News _ _ _ _ => N9)
    refine' SPost.intro F9 N9 ⟨_, _, _, _, _, _, _, _, _, _, _, _, _, _, _, _⟩ ?g1 ?g2 ?g3
    case g1 => k_extra "my rows"
    case g2 => k_extra "my led"
    case g3 => k_extra "my facts"
  clear e0 e1 e2 e3 e4 e5 e6 e7
  rintro ⟨W, C, i, r, t, u, n, vc, nc, cs, a, ta, b, tb, m, tm⟩ uu hh tk ee F1 N1
  clear F0 N0
  (try dsimp only at ee F1 N1)
  show MineH.wpC _ _ _ _ _ { s₁ with heap := hh, toks := tk }
  refine and12 ee ?_
  clear ee
  intro e0 e1 e2 e3 e4 e5 e6 e7 e8 e9 e10 e11
  refine nameF F1 ?_
  clear F1
  intro mm F1
  rename Fr _ _ _ _ => F0
  rename News _ _ _ _ => N0
  refine' cseqS (σ := Lw3) F0 (fun c => ([("well", .ref c.W), ("a", .int c.a c.ta), ("b", .int c.b c.tb), ("m", .int c.m c.tm), ("by", .int c.p c.tp), ("place", .int c.q c.tq)], (c.W, wellO c.C c.i c.r c.t c.u c.n) :: [(c.C, listOf c.vc.toArray c.nc)])) (fun c => 0 ≤ c.i ∧ 0 ≤ c.r ∧ c.r < 65537 ∧ IntsAre c.vc c.cs ∧ c.cs.length ≤ 60 ∧ @Ne Nat c.C c.W ∧ 0 ≤ c.a ∧ c.a < WORD ∧ 0 ≤ c.b ∧ c.b < WORD ∧ 0 ≤ c.m ∧ c.m < WORD ∧ 0 ≤ c.p ∧ c.p < WORD ∧ 0 ≤ c.q ∧ c.q < WORD) ?st3 ?_
  case st3 =>
    k_extra "my words"
    (try dsimp only)
    (rename Fr _ _ _ _ => F9)
    (rename News _ _ _ _ => N9)
    refine' SPost.intro F9 N9 ⟨_, _, _, _, _, _, _, _, _, _, _, _, _, _, _, _, _, _, _, _⟩ ?g1 ?g2 ?g3
    case g1 => k_extra "my rows"
    case g2 => k_extra "my led"
    case g3 => k_extra "my facts"
  clear e0 e1 e2 e3 e4 e5 e6 e7 e8 e9 e10 e11
  rintro ⟨W, C, i, r, t, u, n, vc, nc, cs, a, ta, b, tb, m, tm, p, tp, q, tq⟩ uu hh tk ee F1 N1
  clear F0 N0
  (try dsimp only at ee F1 N1)
  show MineH.wpC _ _ _ _ _ { s₁ with heap := hh, toks := tk }
  refine and16 ee ?_
  clear ee
  intro e0 e1 e2 e3 e4 e5 e6 e7 e8 e9 e10 e11 e12 e13 e14 e15
  refine nameF F1 ?_
  clear F1
  intro mm F1
  rename Fr _ _ _ _ => F0
  rename News _ _ _ _ => N0
  refine' cseqS (σ := Lw4) F0 (fun c => ([("a", .int c.a c.ta), ("b", .int c.b c.tb), ("m", .int c.m c.tm), ("by", .int c.p c.tp), ("place", .int c.q c.tq), ("sum_here", .int c.x c.tx), ("octets", .bytes c.y c.ty)], [])) (fun c => 0 ≤ c.a ∧ c.a < WORD ∧ 0 ≤ c.b ∧ c.b < WORD ∧ 0 ≤ c.m ∧ c.m < WORD ∧ 0 ≤ c.p ∧ c.p < WORD ∧ 0 ≤ c.q ∧ c.q < WORD ∧ Builtin.Int.intBits c.x ≤ 1024 ∧ KBw.bInts c.y = c.ks ∧ c.ks.length ≤ 40) ?st4 ?_
  case st4 =>
    k_extra "my words"
    (try dsimp only)
    (rename Fr _ _ _ _ => F9)
    (rename News _ _ _ _ => N9)
    refine' SPost.intro F9 N9 ⟨_, _, _, _, _, _, _, _, _, _, _, _, _, _, _⟩ ?g1 ?g2 ?g3
    case g1 => k_extra "my rows"
    case g2 => k_extra "my led"
    case g3 => k_extra "my facts"
  clear e0 e1 e2 e3 e4 e5 e6 e7 e8 e9 e10 e11 e12 e13 e14 e15
  rintro ⟨a, ta, b, tb, m, tm, p, tp, q, tq, x, tx, y, ty, ks⟩ uu hh tk ee F1 N1
  clear F0 N0
  (try dsimp only at ee F1 N1)
  show MineH.wpC _ _ _ _ _ { s₁ with heap := hh, toks := tk }
  refine and13 ee ?_
  clear ee
  intro e0 e1 e2 e3 e4 e5 e6 e7 e8 e9 e10 e11 e12
  refine nameF F1 ?_
  clear F1
  intro mm F1
  rename Fr _ _ _ _ => F0
  rename News _ _ _ _ => N0
  refine' cseqS (σ := Lw5) F0 (fun c => ([("a", .int c.a c.ta), ("b", .int c.b c.tb), ("m", .int c.m c.tm), ("by", .int c.p c.tp), ("place", .int c.q c.tq)], [])) (fun c => 0 ≤ c.a ∧ c.a < WORD ∧ 0 ≤ c.b ∧ c.b < WORD ∧ 0 ≤ c.m ∧ c.m < WORD ∧ 0 ≤ c.p ∧ c.p < WORD ∧ 0 ≤ c.q ∧ c.q < WORD) ?st5 ?_
  case st5 =>
    k_extra "my words"
    (try dsimp only)
    (rename Fr _ _ _ _ => F9)
    (rename News _ _ _ _ => N9)
    refine' SPost.intro F9 N9 ⟨_, _, _, _, _, _, _, _, _, _⟩ ?g1 ?g2 ?g3
    case g1 => k_extra "my rows"
    case g2 => k_extra "my led"
    case g3 => k_extra "my facts"
  clear e0 e1 e2 e3 e4 e5 e6 e7 e8 e9 e10 e11 e12
  rintro ⟨a, ta, b, tb, m, tm, p, tp, q, tq⟩ uu hh tk ee F1 N1
  clear F0 N0
  (try dsimp only at ee F1 N1)
  show MineH.wpC _ _ _ _ _ { s₁ with heap := hh, toks := tk }
  refine and10 ee ?_
  clear ee
  intro e0 e1 e2 e3 e4 e5 e6 e7 e8 e9
  refine nameF F1 ?_
  clear F1
  intro mm F1
  rename Fr _ _ _ _ => F0
  rename News _ _ _ _ => N0
  refine' cseqS (σ := Lw6) F0 (fun c => ([("a", .int c.a c.ta), ("b", .int c.b c.tb), ("m", .int c.m c.tm), ("by", .int c.p c.tp), ("place", .int c.q c.tq), ("exponent_octets", .int 0 c.te)], [])) (fun c => 0 ≤ c.a ∧ c.a < WORD ∧ 0 ≤ c.b ∧ c.b < WORD ∧ 0 ≤ c.m ∧ c.m < WORD ∧ 0 ≤ c.p ∧ c.p < WORD ∧ 0 ≤ c.q ∧ c.q < WORD) ?st6 ?_
  case st6 =>
    k_extra "my words"
    (try dsimp only)
    (rename Fr _ _ _ _ => F9)
    (rename News _ _ _ _ => N9)
    refine' SPost.intro F9 N9 ⟨_, _, _, _, _, _, _, _, _, _, _⟩ ?g1 ?g2 ?g3
    case g1 => k_extra "my rows"
    case g2 => k_extra "my led"
    case g3 => k_extra "my facts"
  clear e0 e1 e2 e3 e4 e5 e6 e7 e8 e9
  rintro ⟨a, ta, b, tb, m, tm, p, tp, q, tq, te⟩ uu hh tk ee F1 N1
  clear F0 N0
  (try dsimp only at ee F1 N1)
  show MineH.wpC _ _ _ _ _ { s₁ with heap := hh, toks := tk }
  refine and10 ee ?_
  clear ee
  intro e0 e1 e2 e3 e4 e5 e6 e7 e8 e9
  refine nameF F1 ?_
  clear F1
  intro mm F1
  rename Fr _ _ _ _ => F0
  rename News _ _ _ _ => N0
  refine' cseqS (σ := Lw7) F0 (fun c => ([("a", .int c.a c.ta), ("b", .int c.b c.tb), ("m", .int c.m c.tm), ("by", .int c.p c.tp), ("place", .int c.q c.tq), ("exponent_octets", .int (c.eo : Int) c.te)], [])) (fun c => 0 ≤ c.a ∧ c.a < WORD ∧ 0 ≤ c.b ∧ c.b < WORD ∧ 0 ≤ c.m ∧ c.m < WORD ∧ 0 ≤ c.p ∧ c.p < WORD ∧ 0 ≤ c.q ∧ c.q < WORD ∧ EoOk c.b c.eo) ?st7 ?_
  case st7 =>
    refine' whileK (σ := Nat × Tok) (fun c => ([("a", .int a ta), ("b", .int b tb), ("m", .int m tm), ("by", .int p tp), ("place", .int q tq), ("exponent_octets", .int (c.1 : Int) c.2)], [])) (fun c => c.1 ≤ 32 ∧ EoI b c.1) (fun c => 40 - c.1) (0, te) F0 N0 ?kk ?kl ?ki ?_ ?hE
    case kk => k_extra "my rows"
    case kl => exact List.forall_mem_nil _
    case ki => exact ⟨Nat.zero_le _, .inl rfl⟩
    case hE => passes_own
    clear F0 N0
    rintro ⟨eo, te⟩ u' h' tk' ⟨hi1, hi2⟩ F' N'
    (try dsimp only at F' N' hi1 hi2)
    have hn0 : 0 ≤ (eo : Int) := by omega
    have hn1 : (eo : Int) ≤ 32 := by omega
    k_extra "my steps"
    · (rename Fr _ _ _ _ => F9)
      (rename News _ _ _ _ => N9)
      have hg : 256 ^ eo ≤ b := by assumption
      refine' WEnd.intro F9 N9 (eo + 1, _) ?g1 ?g2 ⟨eo_lt hg (by assumption), .inr hg⟩ ?g4
      case g1 => k_extra "my rows"
      case g2 => exact List.forall_mem_nil _
      case g4 => ((try dsimp only); omega)
    · (try dsimp only)
      (rename Fr _ _ _ _ => F9)
      (rename News _ _ _ _ => N9)
      have hg : ¬ 256 ^ eo ≤ b := by assumption
      refine' SPost.intro F9 N9 ⟨_, _, _, _, _, _, _, _, _, _, eo, te⟩ ?g1 ?g2 ?g3
      case g1 => k_extra "my rows"
      case g2 => exact List.forall_mem_nil _
      case g3 =>
        have hok : EoOk b eo := ⟨Int.lt_of_not_ge hg, hi2⟩
        k_extra "my facts"
  clear e0 e1 e2 e3 e4 e5 e6 e7 e8 e9
  rintro ⟨a, ta, b, tb, m, tm, p, tp, q, tq, eo, te⟩ uu hh tk ee F1 N1
  clear F0 N0
  (try dsimp only at ee F1 N1)
  show MineH.wpC _ _ _ _ _ { s₁ with heap := hh, toks := tk }
  refine and11 ee ?_
  clear ee
  intro e0 e1 e2 e3 e4 e5 e6 e7 e8 e9 e10
  refine nameF F1 ?_
  clear F1
  intro mm F1
  rename Fr _ _ _ _ => F0
  rename News _ _ _ _ => N0
  have hoct : 50 * (eo : Int) = 50 * (((Builtin.Int.intBits b : Int) + 7).fdiv 8) := octets_of (by assumption) e10.1 e10.2
  have heo : (eo : Int) ≤ 32 := by
    rcases e10.2 with h | h
    · omega
    · have := eo_lt h (by assumption)
      omega
  refine' c_execs_cons (c_mono (Q := FDone s₁.heap L s₁.gens s₁.drawn s₁.os) (c_for ?floop) ?_ (fun _ _ z => z))
  case floop =>
    k_extra "my words"
    (rename Fr _ _ _ _ => F9)
    refine' (law_rows_spec a b m p q ta tb tm tp tq (by assumption) (by assumption) (by assumption) (by assumption) (by assumption) (by assumption) (by assumption) (by assumption)) _ _ _ _ _ _ _ (R.le (by decide)) (Wd.at X T F9) trivial ?_
    intro v h5 tk5 hE hP
    obtain ⟨l, vs, n5, tn, rfl, hln, hl, htn, hrows⟩ := hP
    have F5 := fr_ext F9 hE
    have N5 := news_all (news := (l, listOf (List.toArray vs) n5) :: tn) F9 (List.forall_mem_cons.mpr ⟨⟨hl, hln⟩, htn⟩)
    clear hE hl hln htn
    (try dsimp only)
    refine' rows_loop (x0 := "exponent_octets") (v0 := .int (eo : Int) te) rfl ?k1 ?k2 ?k3 ?k4 ?kp ?kL ?kF ?kN hrows ?hm0 ?n1 ?n2 ?n3 ?n4 ?turn ?done
    case kF => exact F5
    case kN => exact N5
    case k1 => rfl
    case k2 => rfl
    case k3 => rfl
    case k4 => rfl
    case kp => rfl
    case kL => rfl
    case n1 => decide
    case n2 => decide
    case n3 => decide
    case n4 => decide
    case hm0 => rfl
    case turn =>
      clear F5 N5 hrows F9
      rintro tn' ⟨nm, ws, d⟩ Lw wv nn due u1 u2 u3 h tk u hr hdue hLw hwv F N
      (try dsimp only at hdue hwv F)
      unfold Is at hdue
      subst hdue
      have hstep := step_row (w := w) (a := a) (b := b) (m := m) (p := p) (q := q) (by assumption) (by assumption) (by assumption) (by assumption) (by assumption) (by assumption) (by assumption) (by assumption) hoct (by omega) Lw u1 u2 te (nm, ws, due) hr
      (try dsimp only at hstep)
      clear hr
      refine c_execs_cons (c_if (c_isTrue_or (c_any ?_)))
      k_extra "my words"
      · exact absurd rfl (by assumption)
      refine c_isTrue_not (c_isTrue_call (c_call_name ?_))
      k_extra "my words"
      refine c_callPlain (P := fun h => (hd.heap_39 w.params).In h) (keeps_K (by k_is)) (c_any ?_) rfl rfl
      k_extra "my words"
      (rename Fr _ _ _ _ => F7)
      (rename News _ _ _ _ => N7)
      refine' LSpec.useN hstep (R.le (by decide : 14 ≤ 60)) F7 N7 X T ?hp (Nat.le_refl _) ?km ?_
      case hp => exact isl_hide N7 hLw hwv (N7 _ hLw).2.1
      case km => exact fun z => nomatch z
      intro h8 tk8 F8 N8
      (try dsimp only)
      k_extra "my words"
      refine c_execs_nil ?_
      (try dsimp only)
      refine c_execs_nil ?_
      exact ⟨rfl, h8, tk8, _, rfl, F8, N8, rfl⟩
    case done => exact fun h tk m' F => ⟨rfl, h, tk, m', rfl, F⟩
  clear F0 N0
  rintro f s' ⟨rfl, h6, tk6, m6, rfl, F6⟩
  (try dsimp only)
  refine c_any ?_
  k_extra "my words"
  (try dsimp only)
  exact GoodW.toG (goodW_bool F6 hg (raisesW_false (by wrow_none_raised)) (postW_of (by wrow_shape) (by wtm_val) (by first | rfl | w_fin)))

end LawS
end Mine
theorem PySem.Challenge.cw_pq0409_01_holds : PySem.Challenge.rw_pq0409_01.Holds := by
  exact Mine.law_holds
