import PyProof.Rows.All
import Wide.All
import OpenK.AllK
import Wide.FinOn
import HandS.ForMost
import HandS.Exc
import HandS.ExcInit
import HandS.ExcOwn
import HandS.WordsExc
import HandS.CallSlots
import HandS.DictComp
import HandS.Conv
import HandS.More
import HandS.Strs
import HandS.SetFor
import HandS.SetBool
import HandS.TupLen
import HandS.IsInst
import HandS.Flow
import HandS.SortInts
import HandS.Wide
import HandS.TupAny
import KE.KTupTabMore
import KE.GoesEnum
import PyProof.EqAt
import PyProof.EqKinds
import PyProof.TupleCall
import Open.SpecLaws
import KE.OsGo
import HandS.ForSpec
import HandS.Head0
import HandS.Head1
import HandS.Head2
import HandS.HeadEnd
import HandS.HeadHook1
import HandS.HeadHook2
import PySem.Challenge.RW_allsomeno_k72_whole_commands_of_debates
set_option Elab.async false
set_option linter.all false
set_option maxRecDepth 100000
set_option maxHeartbeats 8000000
namespace AL
open PySem PySem.Spec PyProof.Rows L2
def topS (i : Nat) : Stmt := PySem.Challenge.pw_allsomeno_k72_whole_commands_of_debates.main.body.getD i (.Pass ⟨0, 0, 0, 0⟩)
abbrev s_is_whole : Stmt := topS 12
abbrev s_is_signature : Stmt := topS 13
abbrev s_is_quantity : Stmt := topS 14
abbrev s_is_noun : Stmt := topS 15
abbrev s_is_verb : Stmt := topS 16
abbrev s_is_verb_sentence : Stmt := topS 17
abbrev s_is_self_sentence : Stmt := topS 18
abbrev s_is_sentence : Stmt := topS 19
abbrev s_are_premises : Stmt := topS 20
abbrev s_check_signature : Stmt := topS 21
abbrev s_check_premises : Stmt := topS 23
abbrev s_steps_of_table : Stmt := topS 24
abbrev s_table_of : Stmt := topS 25
abbrev s_stated_by : Stmt := topS 26
abbrev s_stated_kinds : Stmt := topS 27
abbrev s_nouns_of : Stmt := topS 28
abbrev s_above : Stmt := topS 29
abbrev s_required_nouns : Stmt := topS 30
abbrev s_required_kinds : Stmt := topS 32
abbrev s_is_forced : Stmt := topS 33
abbrev s_is_forced_self : Stmt := topS 34
abbrev s_word_of : Stmt := topS 35
abbrev s_forced : Stmt := topS 36
abbrev s_forced_self : Stmt := topS 37
abbrev s_contrary : Stmt := topS 39
abbrev s_is_contradicted : Stmt := topS 40
abbrev s_verb_conflicts : Stmt := topS 41
abbrev s_conflicts_by : Stmt := topS 42
abbrev s_conflicts_of : Stmt := topS 43
abbrev s_can_hold : Stmt := topS 44
abbrev s_is_plain : Stmt := topS 47
abbrev s_sizes_of : Stmt := topS 48
abbrev s_done_to : Stmt := topS 49
abbrev s_model_of : Stmt := topS 50
abbrev s_canonical_model : Stmt := topS 51
abbrev s_is_command : Stmt := topS 56
abbrev s_said_by : Stmt := topS 57
abbrev s_behind : Stmt := topS 58
abbrev s_checked : Stmt := topS 59
abbrev s_law_stream : Stmt := topS 62
abbrev s_law_next : Stmt := topS 63
abbrev s_law_is_integer : Stmt := topS 64
abbrev s_law_equal : Stmt := topS 65
abbrev s_law_noun_words : Stmt := topS 66
abbrev s_law_sentence : Stmt := topS 67
abbrev s_law_signature : Stmt := topS 68
abbrev s_law_having : Stmt := topS 69
abbrev s_law_size : Stmt := topS 70
abbrev s_law_seen : Stmt := topS 71
abbrev s_law_says : Stmt := topS 72
abbrev s_law_holds : Stmt := topS 73
abbrev s_law_satisfies : Stmt := topS 74
abbrev s_law_said : Stmt := topS 75
abbrev s_law_command : Stmt := topS 76
abbrev s_law_behind : Stmt := topS 77
abbrev s_law_why_not : Stmt := topS 78
abbrev s_law_told : Stmt := topS 79
abbrev s_law_canonical : Stmt := topS 80
abbrev s_law : Stmt := topS 81
abbrev s_BadValue_init : Stmt := inClass (topS 3) 0
abbrev s_TooLarge_init : Stmt := inClass (topS 4) 0
abbrev s_NotPossible_init : Stmt := inClass (topS 5) 0
abbrev s_Debate_init : Stmt := inClass (topS 60) 0
abbrev s_Debate_act : Stmt := inClass (topS 60) 1
abbrev s_Debate_assertions : Stmt := inClass (topS 60) 3
abbrev s_Debate_sentences : Stmt := inClass (topS 60) 4
abbrev s_Debate_journal : Stmt := inClass (topS 60) 5
abbrev s_Debate_records : Stmt := inClass (topS 60) 8
section
variable {K : PySem.W.Frag}
/-- the class of the error -/
def lowB (K : PySem.W.Frag) (C : Addr) : Bool := match K.lookup C with
  | some ⟨.type "type", _, .cls cd, sl⟩ => (match cd.mro, sl.toList with
    | .ref C' :: bm, [_, _, _, _, some (.builtin n), _] => C' == C && n == "ValueError.__new__" && !cd.hasDel && cd.hasDict && PySem.HandSPX.refsVE bm
    | _, _ => false)
  | _ => false
theorem lowB_ok {C : Addr} (q : lowB K C = true) : ∃ nm qn N bs bm sn sub ab col dd k0 k1 k2 k3 k5, K.lookup C = some (PySem.excClassObj nm qn C N bs bm true sn sub ab col dd k0 k1 k2 k3 k5 "ValueError.__new__") ∧ PySem.HandSPX.refsVE bm = true := by
  unfold lowB at q
  split at q
  · rename_i dd cd sl ho
    split at q
    · rename_i C' bm k0 k1 k2 k3 n k5 hm hs
      simp only [Bool.and_eq_true, beq_iff_eq, Bool.not_eq_true'] at q
      obtain ⟨⟨⟨⟨rfl, rfl⟩, hdel⟩, hdict⟩, hbm⟩ := q
      obtain ⟨nm, bs, mro, ns, qn, hd, sn, sub, ab, col, del⟩ := cd
      dsimp only at hm hdel hdict
      subst hm hdel hdict
      have hsl : sl = #[k0, k1, k2, k3, some (.builtin "ValueError.__new__"), k5] := by
        obtain ⟨l⟩ := sl
        simp only at hs
        rw [hs]
      subst hsl
      exact ⟨nm, qn, ns, bs, bm, sn, sub, ab, col, dd, k0, k1, k2, k3, k5, ho, hbm⟩
    · cases q
  · cases q
/-- no keyword-only defaults -/
def kwN (K : PySem.W.Frag) (f : Addr) : Bool := match K.lookup f with
  | some ⟨_, _, .func fd, _⟩ => (match fd.kwdefaults with
    | .none => true
    | _ => false)
  | _ => false
def npC (K : PySem.W.Frag) : Addr := He.ga K "NotPossible"
def npI (K : PySem.W.Frag) : Addr := He.ma K (npC K) "__init__"
def exB (K : PySem.W.Frag) : Bool := He.tupB K "QUANTITIES" [.str "all", .str "some"] && (He.tupB K "TWO_NOUNS" [.str "all", .str "some not", .str "no", .str "some", .str "as many", .str "fewer"] && (He.tupB K "COPIES" [.int 0, .int 1, .int 2] &&
  (lowB K (npC K) && (He.eqO (PySem.W.findIn K (.ref (npC K)) "__setattr__") (some (some (.builtin "object.__setattr__"))) && (He.eqO (PySem.W.findIn K (.ref (npC K)) "__getattribute__") (some (some (.builtin "BaseException.__getattribute__"))) && (He.eqO (PySem.W.findIn K (.ref (npC K)) "__getattr__") (some none) &&
  (He.eqO (PySem.W.findIn K (.ref (npC K)) "__init__") (some (some (.ref (npI K)))) && (decide (PySem.W.typeIn K (.ref (npI K)) = some (.type "function")) && (decide (PySem.W.subIn K (.ref (npC K)) (.type "BaseException") = some true) && (decide (PySem.W.typeIn K (.ref (npC K)) = some (.type "type")) && (PySem.W.hasDictIn K (npC K) && kwN K (npI K))))))))))))
theorem funD_fun {x qual : Str} {st : Stmt} {f : Addr} {fd : FuncData} (F : FunD K x qual (defArgs st) (defBody st) (defScope st) [] [] f fd) : Fun K x qual st f fd := by
  obtain ⟨oc, od, dV, kV, doc, pm, an, cdv, ct, osl, rfl, lk, hcd, hd, _⟩ := F.ex
  rcases hd with ⟨_, rfl⟩ | ⟨h, _⟩
  · exact ⟨⟨oc, od, kV, doc, pm, an, cdv, ct, osl, rfl, lk, hcd⟩, F.kp⟩
  · exact absurd rfl h
end
/-! the Hook -/
abbrev AlW : Type := He.AlD × Bool
/-- the objects that these name -/
def reach (g : Addr → Option Obj) (as : List Addr) : List Addr := as.flatMap fun a => match g a with
  | some o => He.refsD o
  | none => []
def asW (g : Addr → Option Obj) : List Addr := mainGlobals :: (reach g [mainGlobals] ++ (reach g (reach g [mainGlobals]) ++ (reach g (reach g (reach g [mainGlobals])) ++ reach g (reach g (reach g (reach g [mainGlobals]))))))
def obsW (fa : List He.Fa) (fn : List He.DefD) (g : Addr → Option Obj) : AlW := (He.obsD fa fn (He.frG g (asW g)), exB (He.frG g (asW g)))
def SaysW (fa : List He.Fa) (fn : List He.DefD) (K : PySem.W.Frag) : Prop := He.SaysD fa fn K ∧ exB K = true
def hookW (fa : List He.Fa) (fn : List He.DefD) : PySem.W.Hook where
  α := AlW
  obs := fun s => obsW fa fn s.heap.get?
  val := fun _ => (He.valD fn, true)
  says := fun _ h => ∃ K : PySem.W.Frag, K.In h ∧ SaysW fa fn K
  of := fun _ _ e => ⟨_, He.frG_in, congrArg (fun z : AlW => z.1) e, congrArg (fun z : AlW => z.2) e⟩
  keeps := fun _ _ _ ⟨K, hK, c⟩ k => ⟨K, PySem.W.Frag.In.keeps hK k, c⟩
theorem obsW_eq {fa : List He.Fa} {fn : List He.DefD} {g : Addr → Option Obj} {s : Shared} (h : ∀ a, g a = s.heap.get? a) : obsW fa fn g = (hookW fa fn).obs s := by
  have e : g = s.heap.get? := funext h
  rw [e] <;> rfl
def dG (x : Str) (st : Stmt) : He.DefD := ⟨(x, none), x, x, defArgs st, defBody st, defScope st, [], []⟩
def dM (c x q : Str) (st : Stmt) : He.DefD := ⟨(c, some x), x, q, defArgs st, defBody st, defScope st, [], []⟩
def fa0 : List He.Fa := [.glo "is_whole", .glo "is_signature", .glo "is_quantity", .glo "is_noun", .glo "is_verb", .glo "is_verb_sentence", .glo "is_self_sentence", .glo "is_sentence", .glo "are_premises", .glo "check_signature", .glo "check_premises", .glo "steps_of_table", .glo "table_of", .glo "stated_by", .glo "stated_kinds", .glo "nouns_of", .glo "above", .glo "required_nouns", .glo "required_kinds", .glo "is_forced", .glo "is_forced_self", .glo "word_of", .glo "forced", .glo "forced_self", .glo "contrary", .glo "is_contradicted", .glo "verb_conflicts", .glo "conflicts_by", .glo "conflicts_of", .glo "can_hold"]
def fa1 : List He.Fa := [.glo "is_plain", .glo "sizes_of", .glo "done_to", .glo "model_of", .glo "canonical_model", .glo "is_command", .glo "said_by", .glo "behind", .glo "checked", .glo "_law_stream", .glo "_law_next", .glo "_law_is_integer", .glo "_law_equal", .glo "_law_noun_words", .glo "_law_sentence", .glo "_law_signature", .glo "_law_having", .glo "_law_size", .glo "_law_seen", .glo "_law_says", .glo "_law_holds", .glo "_law_satisfies", .glo "_law_said", .glo "_law_command", .glo "_law_behind", .glo "_law_why_not", .glo "_law_told", .glo "_law_canonical", .glo "law", .free "abs"]
def fa2 : List He.Fa := [.free "all", .free "any", .free "bool", .free "enumerate", .free "int", .free "isinstance", .free "len", .free "list", .free "max", .free "min", .free "range", .free "set", .free "sorted", .free "str", .free "sum", .free "tuple", .int "MOST_NOUNS" 4, .int "MOST_VERBS" 2, .int "MOST_PREMISES" 8, .int "MOST_SPEAKER" 5, .int "MOST_ASSERTIONS" 8, .int "MOST_COMMANDS" 20, .glo "QUANTITIES", .glo "TWO_NOUNS", .glo "COPIES", .glo "NotPossible", .noat "NotPossible" "why", .keep "NotPossible", .exm "NotPossible" "NotPossible" true, .glo "Debate"]
def fa3 : List He.Fa := [.cls "Debate", .noat "Debate" "signature", .noat "Debate" "states", .noat "Debate" "commands", .mkr "Debate", .meth "Debate" "act", .meth "Debate" "assertions", .meth "Debate" "sentences", .meth "Debate" "journal", .meth "Debate" "records"]
def fa : List He.Fa := fa0 ++ fa1 ++ fa2 ++ fa3
def fn0 : List He.DefD := [dG "is_whole" s_is_whole, dG "is_signature" s_is_signature, dG "is_quantity" s_is_quantity, dG "is_noun" s_is_noun, dG "is_verb" s_is_verb, dG "is_verb_sentence" s_is_verb_sentence, dG "is_self_sentence" s_is_self_sentence, dG "is_sentence" s_is_sentence, dG "are_premises" s_are_premises, dG "check_signature" s_check_signature, dG "check_premises" s_check_premises, dG "steps_of_table" s_steps_of_table, dG "table_of" s_table_of, dG "stated_by" s_stated_by, dG "stated_kinds" s_stated_kinds, dG "nouns_of" s_nouns_of, dG "above" s_above, dG "required_nouns" s_required_nouns, dG "required_kinds" s_required_kinds, dG "is_forced" s_is_forced]
def fn1 : List He.DefD := [dG "is_forced_self" s_is_forced_self, dG "word_of" s_word_of, dG "forced" s_forced, dG "forced_self" s_forced_self, dG "contrary" s_contrary, dG "is_contradicted" s_is_contradicted, dG "verb_conflicts" s_verb_conflicts, dG "conflicts_by" s_conflicts_by, dG "conflicts_of" s_conflicts_of, dG "can_hold" s_can_hold, dG "is_plain" s_is_plain, dG "sizes_of" s_sizes_of, dG "done_to" s_done_to, dG "model_of" s_model_of, dG "canonical_model" s_canonical_model, dG "is_command" s_is_command, dG "said_by" s_said_by, dG "behind" s_behind, dG "checked" s_checked, dG "_law_stream" s_law_stream]
def fn2 : List He.DefD := [dG "_law_next" s_law_next, dG "_law_is_integer" s_law_is_integer, dG "_law_equal" s_law_equal, dG "_law_noun_words" s_law_noun_words, dG "_law_sentence" s_law_sentence, dG "_law_signature" s_law_signature, dG "_law_having" s_law_having, dG "_law_size" s_law_size, dG "_law_seen" s_law_seen, dG "_law_says" s_law_says, dG "_law_holds" s_law_holds, dG "_law_satisfies" s_law_satisfies, dG "_law_said" s_law_said, dG "_law_command" s_law_command, dG "_law_behind" s_law_behind, dG "_law_why_not" s_law_why_not, dG "_law_told" s_law_told, dG "_law_canonical" s_law_canonical, dG "law" s_law, dM "NotPossible" "__init__" "NotPossible.__init__" s_NotPossible_init]
def fn3 : List He.DefD := [dM "Debate" "__init__" "Debate.__init__" s_Debate_init, dM "Debate" "act" "Debate.act" s_Debate_act, dM "Debate" "assertions" "Debate.assertions" s_Debate_assertions, dM "Debate" "sentences" "Debate.sentences" s_Debate_sentences, dM "Debate" "journal" "Debate.journal" s_Debate_journal, dM "Debate" "records" "Debate.records" s_Debate_records]
def fn : List He.DefD := fn0 ++ fn1 ++ fn2 ++ fn3
def loose0 : List Str := ["_wall", "LogicError", "BadValue", "TooLarge", "NotPossible", "MOST_NOUNS", "MOST_VERBS", "MOST_PREMISES", "QUANTITIES", "TWO_NOUNS", "is_whole", "is_signature", "is_quantity", "is_noun", "is_verb", "is_verb_sentence", "is_self_sentence", "is_sentence", "are_premises", "check_signature", "check_premises", "steps_of_table", "table_of", "stated_by", "stated_kinds", "nouns_of", "above", "required_nouns", "required_kinds", "is_forced"]
def loose1 : List Str := ["is_forced_self", "word_of", "forced", "forced_self", "contrary", "is_contradicted", "verb_conflicts", "conflicts_by", "conflicts_of", "can_hold", "COPIES", "is_plain", "sizes_of", "done_to", "model_of", "canonical_model", "MOST_SPEAKER", "MOST_ASSERTIONS", "MOST_COMMANDS", "is_command", "said_by", "behind", "checked", "Debate", "_law_stream", "_law_next", "_law_is_integer", "_law_equal", "_law_noun_words", "_law_sentence"]
def loose2 : List Str := ["_law_signature", "_law_having", "_law_size", "_law_seen", "_law_says", "_law_holds", "_law_satisfies", "_law_said", "_law_command", "_law_behind", "_law_why_not", "_law_told", "_law_canonical"]
def loose : List Str := loose0 ++ loose1 ++ loose2
abbrev Rw : PySem.W.OpenRow := PySem.W.OpenLaw.row PySem.Challenge.rw_allsomeno_k72_whole_commands_of_debates
abbrev hk : PySem.W.Hook := hookW fa fn
def ob (s : PySem.W.SharedT) : AlW := obsW fa fn (HandSHeadRun.getT s)
theorem ob_eq (s : PySem.W.SharedT) : ob s = hk.obs s.abs := obsW_eq (HandSHeadRun.getT_eq s)
theorem run (w : World) : HandSHeadRun.RunEq Rw (PySem.W.view Rw.prog [81]) hk ob 8000 loose w := by
  intro os
  kernel_rfl
theorem e_open : PySem.W.opening Rw.prog = PySem.W.plainProg Rw.prog.main.scope.names := by kernel_rfl
theorem e_fence : ∀ s, PySem.fenceModules? Rw.prog s = some s := fun s => by kernel_rfl
theorem e_def : PySem.W.defOf (PySem.W.view Rw.prog [81]) Rw.name = some (HandSHeadRun.topDef Rw.prog 81, []) := by kernel_rfl
theorem e_the : Rw.prog.theDef Rw.name = some ((HandSHeadRun.topDef Rw.prog 81).params, (HandSHeadRun.topDef Rw.prog 81).body, (HandSHeadRun.topDef Rw.prog 81).scope) := by kernel_rfl
theorem e_kw : PySem.W.kwWritten? (HandSHeadRun.topDef Rw.prog 81).params.kwonlyargs (HandSHeadRun.topDef Rw.prog 81).params.kw_defaults = some [] := by kernel_rfl
theorem e_ok : (PySem.W.chainsOk (PySem.W.view Rw.prog [81]) && PySem.W.opensWell Rw.prog && (PySem.W.frees Rw.toRowW && Rw.within.isEmpty)) = true := by decide +kernel
theorem e_bare : Rw.prog.bare := ⟨rfl, rfl, rfl, rfl, rfl, by decide +kernel⟩
theorem e_dfl : (HandSHeadRun.topDef Rw.prog 81).params.defaults = [] := by kernel_rfl
theorem e_name : (HandSHeadRun.topDef Rw.prog 81).name = ("law" : PySem.Str) := by kernel_rfl
end AL
namespace AL
open PySem PySem.Spec PyProof.Rows L2

abbrev St := L2.St
inductive D where
  | non | bl (b : Bool) | int (i : Int) | str (s : Str)
  | tup (l : List D) | lst (l : List D)
  | tab (l : List (Int × Int)) | imp (l : List (Int × Int)) | ik (l : List Int)

def tabE (p : Int × Int) : List Key × V := ([Sum.inl p.1, Sum.inl p.2], V.bl true)
def impE (p : Int × Int) : Key × V := (Sum.inl p.1, V.int p.2)
def ikE (i : Int) : Key × V := (Sum.inl i, V.bl true)

mutual
inductive DT (G : Hp) : V → D → Prop
  | non : DT G .non .non
  | bl (b : Bool) : DT G (.bl b) (.bl b)
  | int (i : Int) : DT G (.int i) (.int i)
  | str (x : Str) : DT G (.str x) (.str x)
  | tup {a : Addr} {vs : List V} {ds : List D} : G a = some (.tup vs) → ds.length ≤ sizeLine → DTs G vs ds → DT G (.ref a) (.tup ds)
  | lst {a : Addr} {vs : List V} {ds : List D} : G a = some (.lst vs) → ds.length ≤ sizeLine → DTs G vs ds → DT G (.ref a) (.lst ds)
  | tab {a : Addr} {ps : List (Int × Int)} : Rd G a (.dT (ps.map tabE)) → DT G (.ref a) (.tab ps)
  | imp {a : Addr} {ps : List (Int × Int)} : Rd G a (.dK (ps.map impE)) → DT G (.ref a) (.imp ps)
  | ik {a : Addr} {ps : List Int} : Rd G a (.dK (ps.map ikE)) → DT G (.ref a) (.ik ps)
inductive DTs (G : Hp) : List V → List D → Prop
  | nil : DTs G [] []
  | cons {v : V} {vs : List V} {d : D} {ds : List D} : DT G v d → DTs G vs ds → DTs G (v :: vs) (d :: ds)
end

def isDK : HO → Bool
  | .dK _ => true | .dT _ => true | _ => false
def nT : HO → Bool
  | .tup _ => false | _ => true
structure Mo (G G' : Hp) : Prop where
  tup : ∀ {b vs}, G b = some (.tup vs) → G' b = some (.tup vs)
  lst : ∀ {b vs}, G b = some (.lst vs) → G' b = some (.lst vs)
  rd : ∀ {b u}, isDK u = true → Rd G b u → Rd G' b u

theorem Mo.of {G G' : Hp} (h : Same G G') : Mo G G' :=
  ⟨fun e => h _ _ e, fun e => h _ _ e, fun _ e => e.elim (fun e => .inl (h _ _ e)) fun ⟨o, e⟩ => .inr ⟨o, h _ _ e⟩⟩

mutual
theorem DT.mo {G G' : Hp} (k : Mo G G') : ∀ {v d}, DT G v d → DT G' v d
  | _, _, .non => .non
  | _, _, .bl b => .bl b
  | _, _, .int i => .int i
  | _, _, .str x => .str x
  | _, _, .tup h z r => .tup (k.tup h) z (DTs.mo k r)
  | _, _, .lst h z r => .lst (k.lst h) z (DTs.mo k r)
  | _, _, .tab h => .tab (k.rd rfl h)
  | _, _, .imp h => .imp (k.rd rfl h)
  | _, _, .ik h => .ik (k.rd rfl h)
theorem DTs.mo {G G' : Hp} (k : Mo G G') : ∀ {vs ds}, DTs G vs ds → DTs G' vs ds
  | _, _, .nil => .nil
  | _, _, .cons h r => .cons (DT.mo k h) (DTs.mo k r)
end

theorem DTs.length {G : Hp} : ∀ {vs ds}, DTs G vs ds → vs.length = ds.length
  | _, _, .nil => rfl
  | _, _, .cons _ r => congrArg (· + 1) r.length
theorem DTs.get {G : Hp} : ∀ {vs ds} {i : Nat} {d : D}, DTs G vs ds → ds[i]? = some d → ∃ v, vs[i]? = some v ∧ DT G v d
  | _, _, _, _, .nil, e => by simp at e
  | _, _, 0, _, .cons h _, e => by simp at e; subst e; exact ⟨_, rfl, h⟩
  | _, _, i + 1, d, .cons _ r, e => by
    obtain ⟨v, h1, h2⟩ := DTs.get (i := i) (d := d) r (by simpa using e)
    exact ⟨v, by simpa using h1, h2⟩
theorem DTs.getV {G : Hp} : ∀ {vs ds} {i : Nat} {v : V}, DTs G vs ds → vs[i]? = some v → ∃ d, ds[i]? = some d ∧ DT G v d
  | _, _, _, _, .nil, e => by simp at e
  | _, _, 0, _, .cons h _, e => by simp at e; subst e; exact ⟨_, rfl, h⟩
  | _, _, i + 1, d, .cons _ r, e => by
    obtain ⟨v, h1, h2⟩ := DTs.getV (i := i) (v := d) r (by simpa using e)
    exact ⟨v, by simpa using h1, h2⟩
theorem DTs.app {G : Hp} : ∀ {vs ds ws es}, DTs G vs ds → DTs G ws es → DTs G (vs ++ ws) (ds ++ es)
  | _, _, _, _, .nil, s => s
  | _, _, _, _, .cons h r, s => .cons h (r.app s)
theorem DTs.take {G : Hp} : ∀ {vs ds} (n : Nat), DTs G vs ds → DTs G (vs.take n) (ds.take n)
  | _, _, 0, _ => .nil
  | _, _, _ + 1, .nil => .nil
  | _, _, n + 1, .cons h r => .cons h (r.take n)
theorem DTs.drop {G : Hp} : ∀ {vs ds} (n : Nat), DTs G vs ds → DTs G (vs.drop n) (ds.drop n)
  | _, _, 0, s => s
  | _, _, _ + 1, .nil => .nil
  | _, _, n + 1, .cons h r => DTs.drop n r
theorem DTs.set {G : Hp} {v : V} {d : D} (h : DT G v d) : ∀ {vs ds} (n : Nat), DTs G vs ds → DTs G (vs.set n v) (ds.set n d)
  | _, _, _, .nil => .nil
  | _, _, 0, .cons _ r => .cons h r
  | _, _, n + 1, .cons q r => .cons q (DTs.set h n r)

structure Gr (G H G' H' : Hp) : Prop where
  sg : Same G' H'
  g : Same G G'
  h : Same H H'
  nw : ∀ b o, H b = some o → nT o = true → G' b = G b
theorem Gr.refl {G H : Hp} (s : Same G H) : Gr G H G H := ⟨s, Same.refl _, Same.refl _, fun _ _ _ _ => rfl⟩
theorem live {H H' : Hp} (s : Same H H') {b : Addr} (h : H b ≠ none) : H' b ≠ none := by
  cases e : H b with
  | none => exact absurd e h
  | some o => rw [s b o e]; simp
theorem Gr.trans {G H G1 H1 G2 H2 : Hp} (a : Gr G H G1 H1) (b : Gr G1 H1 G2 H2) : Gr G H G2 H2 :=
  ⟨b.sg, a.g.trans b.g, a.h.trans b.h, fun c o e n => (b.nw c o (a.h c o e) n).trans (a.nw c o e n)⟩
theorem same_new {H : Hp} {p : Addr} {o : HO} (h : H p = none) : Same H (upd H p o) := fun b x e => by
  rw [upd_ne (ne_of_none e h)]; exact e
theorem same_none {G H : Hp} (s : Same G H) {p : Addr} (h : H p = none) : G p = none := s.free h
theorem Gr.new {G H : Hp} {p : Addr} {o : HO} (s : Same G H) (h : H p = none) : Gr G H (upd G p o) (upd H p o) where
  sg := fun b x e => by
    by_cases hb : b = p
    · subst hb; rw [upd_same] at e ⊢; exact e
    · rw [upd_ne hb] at e ⊢; exact s b x e
  g := same_new (s.free h)
  h := same_new h
  nw := fun b o e _ => upd_ne (fun z => by subst z; rw [h] at e; cases e)
theorem Gr.side {G H : Hp} {p : Addr} {o : HO} (s : Same G H) (h : H p = none) : Gr G H G (upd H p o) where
  sg := fun b x e => same_new h b x (s b x e)
  g := Same.refl _
  h := same_new h
  nw := fun _ _ _ _ => rfl
theorem Gr.s0 {G H G' H' : Hp} (s : Gr G H G' H') : Same G' H' := s.sg
theorem Gr.dt {G H G' H' : Hp} (g : Gr G H G' H') {v : V} {d : D} (h : DT G v d) : DT G' v d := h.mo (.of g.g)
theorem Gr.dts {G H G' H' : Hp} (g : Gr G H G' H') {v : List V} {d : List D} (h : DTs G v d) : DTs G' v d := h.mo (.of g.g)

inductive M where
  | lst (l : List D) | tab (l : List (Int × Int)) | imp (l : List (Int × Int)) | ik (l : List Int)
  | deb (C : Addr) (sg : D) (sts : List D) (cms : D)
  | ox (S : Addr → HO → List (Addr × D) → Prop)
  | at (a : Addr) (m : M)
inductive Cell where
  | un | im (d : D) | ow (m : M) | lk (l : List (Int × Int))

def Own (G H : Hp) (a : Addr) : M → List Addr → Prop
  | .lst l, f => f = [a] ∧ l.length ≤ sizeLine ∧ ∃ vs, H a = some (.lst vs) ∧ DTs G vs l
  | .tab l, f => f = [a] ∧ H a = some (.dT (l.map tabE))
  | .imp l, f => f = [a] ∧ H a = some (.dK (l.map impE))
  | .ik l, f => f = [a] ∧ H a = some (.dK (l.map ikE))
  | .deb C sg sts cms, f => ∃ dx l vs v1 v3, f = [a, dx, l] ∧ H a = some (.ins C dx [("signature", v1), ("states", .ref l), ("commands", v3)]) ∧ H dx = some (.own a) ∧ H l = some (.lst vs) ∧ DT G v1 sg ∧ DTs G vs sts ∧ DT G v3 cms
  | .ox S, f => f = [a] ∧ ∃ u ps, S a u ps ∧ nT u = true ∧ H a = some u ∧ ∀ p ∈ ps, DT G (.ref p.1) p.2
  | .at b m, f => a = b ∧ Own G H a m f
theorem Own.mo {G G' H H' : Hp} {a : Addr} {m : M} {f : List Addr} (g : Mo G G') (h : ∀ b ∈ f, H' b = H b) (o : Own G H a m f) : Own G' H' a m f := by
  induction m with
  | lst l => obtain ⟨rfl, z, vs, e, r⟩ := o; exact ⟨rfl, z, vs, (h a (by simp)).trans e, r.mo g⟩
  | tab l => obtain ⟨rfl, e⟩ := o; exact ⟨rfl, (h a (by simp)).trans e⟩
  | imp l => obtain ⟨rfl, e⟩ := o; exact ⟨rfl, (h a (by simp)).trans e⟩
  | ik l => obtain ⟨rfl, e⟩ := o; exact ⟨rfl, (h a (by simp)).trans e⟩
  | deb C sg sts cms =>
    obtain ⟨dx, l, vs, v1, v3, rfl, e1, e2, e3, r1, r2, r3⟩ := o
    exact ⟨dx, l, vs, v1, v3, rfl, (h a (by simp)).trans e1, (h dx (by simp)).trans e2, (h l (by simp)).trans e3, r1.mo g, r2.mo g, r3.mo g⟩
  | ox S => obtain ⟨rfl, u, ps, e0, e1, e2, e3⟩ := o; exact ⟨rfl, u, ps, e0, e1, (h a (by simp)).trans e2, fun p hp => (e3 p hp).mo g⟩
  | «at» b m ih => exact ⟨o.1, ih o.2⟩
theorem Own.liveO {G H : Hp} {a : Addr} {m : M} {f : List Addr} (o : Own G H a m f) : ∀ b ∈ f, ∃ u, H b = some u ∧ nT u = true := by
  intro b hb
  induction m with
  | lst l => obtain ⟨rfl, z, vs, e, r⟩ := o; simp at hb; subst hb; exact ⟨_, e, rfl⟩
  | tab l => obtain ⟨rfl, e⟩ := o; simp at hb; subst hb; exact ⟨_, e, rfl⟩
  | imp l => obtain ⟨rfl, e⟩ := o; simp at hb; subst hb; exact ⟨_, e, rfl⟩
  | ik l => obtain ⟨rfl, e⟩ := o; simp at hb; subst hb; exact ⟨_, e, rfl⟩
  | deb C sg sts cms =>
    obtain ⟨dx, l, vs, v1, v3, rfl, e1, e2, e3, r1, r2, r3⟩ := o
    simp at hb
    rcases hb with rfl | rfl | rfl
    · exact ⟨_, e1, rfl⟩
    · exact ⟨_, e2, rfl⟩
    · exact ⟨_, e3, rfl⟩
  | ox S => obtain ⟨rfl, u, ps, e0, e1, e2, e3⟩ := o; simp at hb; subst hb; exact ⟨_, e2, e1⟩
  | «at» b m ih => exact ih o.2

inductive Sl (G H : Hp) : St → List Cell → List Addr → Prop
  | nil : Sl G H [] [] []
  | un {o σ δ f} : Sl G H σ δ f → Sl G H (o :: σ) (.un :: δ) f
  | im {v d σ δ f} : DT G v d → Sl G H σ δ f → Sl G H (some v :: σ) (.im d :: δ) f
  | lk {d o l σ δ f} : G d = some (.frz o (.dT (l.map tabE))) → Sl G H σ δ f → Sl G H (some (.ref d) :: σ) (.lk l :: δ) f
  | ow {a m σ δ f g} : Own G H a m g → Sl G H σ δ f → Sl G H (some (.ref a) :: σ) (.ow m :: δ) (g ++ f)

section
variable {G G' H H' : Hp} {σ : St} {δ : List Cell} {f : List Addr}
structure Mf (G G' : Hp) : Prop extends Mo G G' where
  fz : ∀ {b o u}, G b = some (.frz o u) → G' b = some (.frz o u)
theorem Mf.of (h : Same G G') : Mf G G' := ⟨.of h, fun e => h _ _ e⟩
theorem Sl.mo (g : Mf G G') (s : Sl G H σ δ f) : (∀ b ∈ f, H' b = H b) → Sl G' H' σ δ f := by
  induction s with
  | nil => intro _; exact .nil
  | un _ ih => intro h; exact .un (ih h)
  | im d _ ih => intro h; exact .im (d.mo g.toMo) (ih h)
  | lk e _ ih => intro h; exact .lk (g.fz e) (ih h)
  | ow o _ ih => intro h; exact .ow (o.mo g.toMo fun b hb => h b (List.mem_append_left _ hb)) (ih fun b hb => h b (List.mem_append_right _ hb))
theorem Sl.liveO (s : Sl G H σ δ f) : ∀ b ∈ f, ∃ u, H b = some u ∧ nT u = true := by
  induction s with
  | nil => intro b hb; simp at hb
  | un _ ih => exact ih
  | im d _ ih => exact ih
  | lk d _ ih => exact ih
  | ow o _ ih => intro b hb; exact (List.mem_append.mp hb).elim (o.liveO b) (ih b)
theorem Sl.live (s : Sl G H σ δ f) : ∀ b ∈ f, H b ≠ none := fun b hb => by obtain ⟨u, e, _⟩ := s.liveO b hb; simp [e]
theorem Sl.length (s : Sl G H σ δ f) : σ.length = δ.length := by
  induction s with
  | nil => rfl
  | un _ ih => simp [ih]
  | im d _ ih => simp [ih]
  | lk d _ ih => simp [ih]
  | ow o _ ih => simp [ih]
theorem Sl.get (s : Sl G H σ δ f) : ∀ {i : Nat} {d : D}, δ[i]? = some (Cell.im d) → ∃ v, σ[i]? = some (some v) ∧ DT G v d := by
  induction s with
  | nil => intro i d e; simp at e
  | un _ ih =>
    intro i d e
    cases i with
    | zero => simp at e
    | succ i => obtain ⟨v, h1, h2⟩ := ih (i := i) (by simpa using e); exact ⟨v, by simpa using h1, h2⟩
  | im q _ ih =>
    intro i d e
    cases i with
    | zero => simp at e; subst e; exact ⟨_, rfl, q⟩
    | succ i => obtain ⟨v, h1, h2⟩ := ih (i := i) (by simpa using e); exact ⟨v, by simpa using h1, h2⟩
  | lk o _ ih =>
    intro i d e
    cases i with
    | zero => simp at e
    | succ i => obtain ⟨v, h1, h2⟩ := ih (i := i) (by simpa using e); exact ⟨v, by simpa using h1, h2⟩
  | ow o _ ih =>
    intro i d e
    cases i with
    | zero => simp at e
    | succ i => obtain ⟨v, h1, h2⟩ := ih (i := i) (by simpa using e); exact ⟨v, by simpa using h1, h2⟩
theorem Sl.getL (s : Sl G H σ δ f) : ∀ {i : Nat} {l : List (Int × Int)}, δ[i]? = some (Cell.lk l) → ∃ d o, σ[i]? = some (some (V.ref d)) ∧ G d = some (.frz o (.dT (l.map tabE))) := by
  induction s with
  | nil => intro i d e; simp at e
  | un _ ih =>
    intro i d e
    cases i with
    | zero => simp at e
    | succ i => obtain ⟨v, o, h1, h2⟩ := ih (i := i) (by simpa using e); exact ⟨v, o, by simpa using h1, h2⟩
  | im q _ ih =>
    intro i d e
    cases i with
    | zero => simp at e
    | succ i => obtain ⟨v, o, h1, h2⟩ := ih (i := i) (by simpa using e); exact ⟨v, o, by simpa using h1, h2⟩
  | lk q _ ih =>
    intro i d e
    cases i with
    | zero => simp at e; subst e; exact ⟨_, _, rfl, q⟩
    | succ i => obtain ⟨v, o, h1, h2⟩ := ih (i := i) (by simpa using e); exact ⟨v, o, by simpa using h1, h2⟩
  | ow q _ ih =>
    intro i d e
    cases i with
    | zero => simp at e
    | succ i => obtain ⟨v, o, h1, h2⟩ := ih (i := i) (by simpa using e); exact ⟨v, o, by simpa using h1, h2⟩
/-- a read cell becomes locked -/
theorem Sl.lock (s : Sl G H σ δ f) : ∀ {i : Nat} {d : Addr} {o : Obj} {l : List (Int × Int)}, σ[i]? = some (some (V.ref d)) → G d = some (.frz o (.dT (l.map tabE))) → (∃ c, δ[i]? = some (Cell.im c)) → Sl G H σ (δ.set i (.lk l)) f := by
  induction s with
  | nil => intro i d o l _ _ ⟨c, e⟩; simp at e
  | un s ih =>
    intro i d o l e1 e2 ⟨c, e⟩
    cases i with
    | zero => simp at e
    | succ i => exact .un (ih (i := i) (by simpa using e1) e2 ⟨c, by simpa using e⟩)
  | im q s ih =>
    intro i d o l e1 e2 ⟨c, e⟩
    cases i with
    | zero => simp at e1; subst e1; exact .lk e2 s
    | succ i => exact .im q (ih (i := i) (by simpa using e1) e2 ⟨c, by simpa using e⟩)
  | lk q s ih =>
    intro i d o l e1 e2 ⟨c, e⟩
    cases i with
    | zero => simp at e
    | succ i => exact .lk q (ih (i := i) (by simpa using e1) e2 ⟨c, by simpa using e⟩)
  | ow q s ih =>
    intro i d o l e1 e2 ⟨c, e⟩
    cases i with
    | zero => simp at e
    | succ i => exact .ow q (ih (i := i) (by simpa using e1) e2 ⟨c, by simpa using e⟩)
/-- an owned cell, and what may be laid in its place -/
theorem Sl.getO (s : Sl G H σ δ f) : ∀ {i : Nat} {m : M}, δ[i]? = some (Cell.ow m) → ∃ (a : Addr) (g f1 f2 : List Addr), σ[i]? = some (some (V.ref a)) ∧ Own G H a m g ∧ f = f1 ++ (g ++ f2) ∧
    (∀ (G' H' : Hp) (m' : M), Mf G G' → (∀ b ∈ f1 ++ f2, H' b = H b) → Own G' H' a m' g → Sl G' H' σ (δ.set i (.ow m')) (f1 ++ (g ++ f2))) ∧
    (∀ (G' H' : Hp) (d : D), Mf G G' → (∀ b ∈ f1 ++ f2, H' b = H b) → DT G' (.ref a) d → Sl G' H' σ (δ.set i (.im d)) (f1 ++ f2)) := by
  induction s with
  | nil => intro i d e; simp at e
  | un s ih =>
    intro i d e
    cases i with
    | zero => simp at e
    | succ i =>
      obtain ⟨a, g, f1, f2, h1, h2, h3, h4, h5⟩ := ih (i := i) (by simpa using e)
      exact ⟨a, g, f1, f2, by simpa using h1, h2, h3, fun G' H' m' x y z => .un (h4 G' H' m' x y z), fun G' H' m' x y z => .un (h5 G' H' m' x y z)⟩
  | im q s ih =>
    intro i d e
    cases i with
    | zero => simp at e
    | succ i =>
      obtain ⟨a, g, f1, f2, h1, h2, h3, h4, h5⟩ := ih (i := i) (by simpa using e)
      exact ⟨a, g, f1, f2, by simpa using h1, h2, h3, fun G' H' m' x y z => .im (q.mo x.toMo) (h4 G' H' m' x y z), fun G' H' m' x y z => .im (q.mo x.toMo) (h5 G' H' m' x y z)⟩
  | lk q s ih =>
    intro i d e
    cases i with
    | zero => simp at e
    | succ i =>
      obtain ⟨a, g, f1, f2, h1, h2, h3, h4, h5⟩ := ih (i := i) (by simpa using e)
      exact ⟨a, g, f1, f2, by simpa using h1, h2, h3, fun G' H' m' x y z => .lk (x.fz q) (h4 G' H' m' x y z), fun G' H' m' x y z => .lk (x.fz q) (h5 G' H' m' x y z)⟩
  | @ow a0 m0 σ0 δ0 f0 g0 o s ih =>
    intro i d e
    cases i with
    | zero =>
      simp at e; subst e
      exact ⟨a0, g0, [], f0, rfl, o, rfl, fun G' H' m' x y z => Sl.ow (g := g0) (f := f0) z (s.mo x fun b hb => y b (by simpa using hb)), fun G' H' m' x y z => .im z (s.mo x fun b hb => y b (by simpa using hb))⟩
    | succ i =>
      obtain ⟨a, g, f1, f2, h1, h2, h3, h4, h5⟩ := ih (i := i) (by simpa using e)
      refine ⟨a, g, g0 ++ f1, f2, by simpa using h1, h2, by rw [h3, List.append_assoc], fun G' H' m' x y z => ?_, fun G' H' m' x y z => ?_⟩
      · rw [List.append_assoc]
        exact .ow (o.mo x.toMo fun b hb => y b (by simp [hb])) (h4 G' H' m' x (fun b hb => y b (by rw [List.append_assoc]; exact List.mem_append_right _ hb)) z)
      · rw [List.append_assoc]
        exact .ow (o.mo x.toMo fun b hb => y b (by simp [hb])) (h5 G' H' m' x (fun b hb => y b (by rw [List.append_assoc]; exact List.mem_append_right _ hb)) z)
/-- a slot is stored anew -/
theorem Sl.set (s : Sl G H σ δ f) : ∀ (i : Nat) {v : V} {d : D}, DT G v d → ∃ f', Sl G H (σ.set i (some v)) (δ.set i (.im d)) f' ∧ f'.Sublist f := by
  induction s with
  | nil => intro i v d _; exact ⟨[], by simpa using Sl.nil, .slnil⟩
  | un s ih =>
    intro i v d q
    cases i with
    | zero => exact ⟨_, .im q s, .refl _⟩
    | succ i => obtain ⟨f', h1, h2⟩ := ih i q; exact ⟨f', .un h1, h2⟩
  | im r s ih =>
    intro i v d q
    cases i with
    | zero => exact ⟨_, .im q s, .refl _⟩
    | succ i => obtain ⟨f', h1, h2⟩ := ih i q; exact ⟨f', .im r h1, h2⟩
  | lk r s ih =>
    intro i v d q
    cases i with
    | zero => exact ⟨_, .im q s, .refl _⟩
    | succ i => obtain ⟨f', h1, h2⟩ := ih i q; exact ⟨f', .lk r h1, h2⟩
  | @ow a m σ δ f g o s ih =>
    intro i v d q
    cases i with
    | zero => exact ⟨_, .im q s, List.sublist_append_right _ _⟩
    | succ i => obtain ⟨f', h1, h2⟩ := ih i q; exact ⟨_, .ow o h1, List.Sublist.append (.refl _) h2⟩
theorem Sl.setO (s : Sl G H σ δ f) : ∀ (i : Nat) {a : Addr} {m : M} {g : List Addr}, i < σ.length → Own G H a m g → ∃ f1 f2, Sl G H (σ.set i (some (.ref a))) (δ.set i (.ow m)) (f1 ++ (g ++ f2)) ∧ (f1 ++ f2).Sublist f := by
  induction s with
  | nil => intro i a m g h _; simp at h
  | un s ih =>
    intro i a m g h q
    cases i with
    | zero => exact ⟨[], _, Sl.ow (g := g) q s, .refl _⟩
    | succ i => obtain ⟨f1, f2, h1, h2⟩ := ih i (by simpa using h) q; exact ⟨f1, f2, .un h1, h2⟩
  | im r s ih =>
    intro i a m g h q
    cases i with
    | zero => exact ⟨[], _, Sl.ow (g := g) q s, .refl _⟩
    | succ i => obtain ⟨f1, f2, h1, h2⟩ := ih i (by simpa using h) q; exact ⟨f1, f2, .im r h1, h2⟩
  | lk r s ih =>
    intro i a m g h q
    cases i with
    | zero => exact ⟨[], _, Sl.ow (g := g) q s, .refl _⟩
    | succ i => obtain ⟨f1, f2, h1, h2⟩ := ih i (by simpa using h) q; exact ⟨f1, f2, .lk r h1, h2⟩
  | @ow a0 m0 σ0 δ0 f0 g0 o s ih =>
    intro i a m g h q
    cases i with
    | zero => exact ⟨[], f0, Sl.ow (g := g) q s, List.sublist_append_right _ _⟩
    | succ i =>
      obtain ⟨f1, f2, h1, h2⟩ := ih i (by simpa using h) q
      refine ⟨g0 ++ f1, f2, ?_, ?_⟩
      · rw [List.append_assoc]; exact .ow o h1
      · rw [List.append_assoc]; exact List.Sublist.append (.refl _) h2
/-- names of a comprehension are wiped -/
def wipeC (δ : List Cell) : List Nat → List Cell
  | [] => δ
  | i :: r => (wipeC δ r).set i .un
theorem Sl.unset (s : Sl G H σ δ f) : ∀ (i : Nat), ∃ f', Sl G H (σ.set i none) (δ.set i .un) f' ∧ f'.Sublist f := by
  induction s with
  | nil => intro i; exact ⟨[], by simpa using Sl.nil, .slnil⟩
  | un s ih =>
    intro i
    cases i with
    | zero => exact ⟨_, .un s, .refl _⟩
    | succ i => obtain ⟨f', h1, h2⟩ := ih i; exact ⟨f', .un h1, h2⟩
  | im r s ih =>
    intro i
    cases i with
    | zero => exact ⟨_, .un s, .refl _⟩
    | succ i => obtain ⟨f', h1, h2⟩ := ih i; exact ⟨f', .im r h1, h2⟩
  | lk r s ih =>
    intro i
    cases i with
    | zero => exact ⟨_, .un s, .refl _⟩
    | succ i => obtain ⟨f', h1, h2⟩ := ih i; exact ⟨f', .lk r h1, h2⟩
  | @ow a m σ δ f g o s ih =>
    intro i
    cases i with
    | zero => exact ⟨_, .un s, List.sublist_append_right _ _⟩
    | succ i => obtain ⟨f', h1, h2⟩ := ih i; exact ⟨_, .ow o h1, List.Sublist.append (.refl _) h2⟩
theorem Sl.wiped (s : Sl G H σ δ f) : ∀ (vs : List Nat), ∃ f', Sl G H (wipe σ vs) (wipeC δ vs) f' ∧ f'.Sublist f
  | [] => ⟨f, s, .refl _⟩
  | i :: r => by
    obtain ⟨f1, h1, h2⟩ := s.wiped r
    obtain ⟨f2, h3, h4⟩ := h1.unset i
    exact ⟨f2, h3, h4.trans h2⟩
end

structure Ok (G H : Hp) (σ : St) (δ : List Cell) : Prop where
  sg : Same G H
  sl : ∃ f, Sl G H σ δ f ∧ f.Nodup ∧ ∀ a ∈ f, G a = none
structure Okb (G0 H0 G H : Hp) (σ : St) (δ : List Cell) : Prop where
  gr : Gr G0 H0 G H
  sl : ∃ f, Sl G H σ δ f ∧ f.Nodup ∧ ∀ a ∈ f, G a = none ∧ H0 a = none
section
variable {G0 H0 G G' H H' : Hp} {σ : St} {δ : List Cell}
theorem Ok.grow (o : Ok G H σ δ) (g : Gr G H G' H') : Ok G' H' σ δ := by
  obtain ⟨f, s, nd, fr⟩ := o.sl
  refine ⟨g.sg, f, s.mo (.of g.g) fun b hb => ?_, nd, fun a ha => by obtain ⟨u, e, n⟩ := s.liveO a ha; exact (g.nw a u e n).trans (fr a ha)⟩
  cases e : H b with
  | none => exact absurd e (s.live b hb)
  | some x => exact g.h b x e
theorem Okb.ok (o : Okb G0 H0 G H σ δ) : Ok G H σ δ := let ⟨f, s, nd, fr⟩ := o.sl; ⟨o.gr.sg, f, s, nd, fun a ha => (fr a ha).1⟩
theorem Okb.grow (o : Okb G0 H0 G H σ δ) (g : Gr G H G' H') : Okb G0 H0 G' H' σ δ := by
  obtain ⟨f, s, nd, fr⟩ := o.sl
  refine ⟨o.gr.trans g, f, s.mo (.of g.g) fun b hb => ?_, nd, fun a ha => ⟨by obtain ⟨u, e, n⟩ := s.liveO a ha; exact (g.nw a u e n).trans (fr a ha).1, (fr a ha).2⟩⟩
  cases e : H b with
  | none => exact absurd e (s.live b hb)
  | some x => exact g.h b x e
theorem Okb.set (o : Okb G0 H0 G H σ δ) (i : Nat) {v : V} {d : D} (q : DT G v d) : Okb G0 H0 G H (σ.set i (some v)) (δ.set i (.im d)) := by
  obtain ⟨f, s, nd, fr⟩ := o.sl
  obtain ⟨f', s', sub⟩ := s.set i q
  exact ⟨o.gr, f', s', nd.sublist sub, fun a ha => fr a (sub.subset ha)⟩
theorem Ok.set (o : Ok G H σ δ) (i : Nat) {v : V} {d : D} (q : DT G v d) : Ok G H (σ.set i (some v)) (δ.set i (.im d)) := by
  obtain ⟨f, s, nd, fr⟩ := o.sl
  obtain ⟨f', s', sub⟩ := s.set i q
  exact ⟨o.sg, f', s', nd.sublist sub, fun a ha => fr a (sub.subset ha)⟩
theorem Ok.wiped (o : Ok G H σ δ) (vs : List Nat) : Ok G H (wipe σ vs) (wipeC δ vs) := by
  obtain ⟨f, s, nd, fr⟩ := o.sl
  obtain ⟨f', s', sub⟩ := s.wiped vs
  exact ⟨o.sg, f', s', nd.sublist sub, fun a ha => fr a (sub.subset ha)⟩
theorem Ok.get (o : Ok G H σ δ) {i : Nat} {d : D} (e : δ[i]? = some (Cell.im d)) : ∃ v, σ[i]? = some (some v) ∧ DT G v d := let ⟨_, s, _⟩ := o.sl; s.get e
theorem Ok.length (o : Ok G H σ δ) : σ.length = δ.length := let ⟨_, s, _⟩ := o.sl; s.length
end
end AL
namespace AL
open PySem PySem.Spec PyProof.Rows L2

def sE (X : Cx) (e : Expr) : TE := fun σ H Q => ∀ pins s, Inv X pins σ H s → wpAny (model X.prog X.w) X.A (eval e X.env) (EP X pins σ Q) X.xe s
def sT (X : Cx) (e : Expr) : TT := fun σ H Q => ∀ pins s, Inv X pins σ H s → wpAny (model X.prog X.w) X.A (isTrue e X.env (eval e X.env)) (TP X pins σ Q) X.xe s
def sW (X : Cx) (e : Expr) : TT := fun σ H Q => ∀ whole pins s, Inv X pins σ H s → wpAny (model X.prog X.w) X.A (isTrue e X.env whole) (TP X pins σ Q) X.xe s
def sA (X : Cx) (es : List Expr) : TA := fun σ H Q => ∀ pos pins s, Inv X pins σ H s → wpAny (model X.prog X.w) X.A (spliced (backTo pos (starEach es X.env))) (AP X pins σ Q) X.xe s
def sP (X : Cx) (e : Option Expr) : TO := fun σ H Q => ∀ pins s, Inv X pins σ H s → wpAny (model X.prog X.w) X.A (evalPart e X.env) (fun u s' => ∃ o H', Inv X pins σ H' s' ∧ IsPart u o ∧ Q o H') X.xe s
def sI (X : Cx) (tg iter : Expr) : TI := fun σ H R => ∀ pins s, Inv X pins σ H s → wpAny (model X.prog X.w) X.A (eval iter X.env) (fun v s1 => wpAny (model X.prog X.w) X.A (pyIter v) (PIE X pins σ tg R) X.xe s1) X.xe s
def sG (X : Cx) (tg : Expr) : TG := fun v σ H Q => ∀ pins s u, Inv X pins σ H s → RelV v u → wpAny (model X.prog X.w) X.A (assign tg X.env u) (fun _ s' => ∃ σ' H', Inv X pins σ' H' s' ∧ Q σ' H') X.xe s
def sGs (X : Cx) (ts : List Expr) : TGs := fun vs σ H Q => ∀ pins s us, Inv X pins σ H s → Vals vs us → wpAny (model X.prog X.w) X.A (assignInOrder ((assignEach ts X.env).map (·.2)) us) (fun _ s' => ∃ σ' H', Inv X pins σ' H' s' ∧ Q σ' H') X.xe s
def sSs (X : Cx) (st : List Stmt) : TS := fun D σ H => ∀ pins s, Inv X pins σ H s → wpAny (model X.prog X.w) X.A (execs st X.env) (SP X pins D) X.xe s
section
variable {X : Cx} {e : Expr} {es : List Expr} {σ : St} {H : Hp}
theorem pe_s : PE X e (sE X e) := ⟨fun pins s _ _ _ I h => h pins s I⟩
theorem pt_s : PT X e (sT X e) := ⟨fun pins s _ _ _ I h => h pins s I⟩
theorem pw_s : PW X e (sW X e) := ⟨fun whole pins s _ _ _ I h => h whole pins s I⟩
theorem pa_s : PA X es (sA X es) := ⟨fun pos pins s _ _ _ I h => h pos pins s I⟩
theorem po_s {e : Option Expr} : PO X e (sP X e) := ⟨fun pins s _ _ _ I h => h pins s I⟩
theorem pi_s {tg : Expr} : PI X tg e (sI X tg e) := ⟨fun pins s _ _ _ I h => h pins s I⟩
theorem pg_s : PG X e (sG X e) := ⟨fun pins s _ _ _ u _ I r h => h pins s u I r⟩
theorem pgs_s : PGs X es (sGs X es) := ⟨fun pins s _ _ _ us _ I r h => h pins s us I r⟩
theorem pss_s {st : List Stmt} : PSs X st (sSs X st) := ⟨fun pins s _ _ _ I h => h pins s I⟩
theorem sE_of {t : TE} {Q : VK} (h : PE X e t) (q : t σ H Q) : sE X e σ H Q := fun pins s I => h.run pins s σ H Q I q
theorem sT_of {t : TT} {Q : Bool → Hp → Prop} (h : PT X e t) (q : t σ H Q) : sT X e σ H Q := fun pins s I => h.run pins s σ H Q I q
theorem sW_of {t : TT} {Q : Bool → Hp → Prop} (h : PW X e t) (q : t σ H Q) : sW X e σ H Q := fun wh pins s I => h.run wh pins s σ H Q I q
theorem sA_of {t : TA} {Q : List V → Hp → Prop} (h : PA X es t) (q : t σ H Q) : sA X es σ H Q := fun pos pins s I => h.run pos pins s σ H Q I q
theorem sP_of {e : Option Expr} {t : TO} {Q : Option Int → Hp → Prop} (h : PO X e t) (q : t σ H Q) : sP X e σ H Q := fun pins s I => h.run pins s σ H Q I q
theorem sI_of {tg : Expr} {t : TI} {Q : It → Hp → Prop} (h : PI X tg e t) (q : t σ H Q) : sI X tg e σ H Q := fun pins s I => h.run pins s σ H Q I q
theorem sG_of {t : TG} {v : V} {Q : St → Hp → Prop} (h : PG X e t) (q : t v σ H Q) : sG X e v σ H Q := fun pins s u I r => h.run pins s σ H v u Q I r q
theorem sGs_of {t : TGs} {v : List V} {Q : St → Hp → Prop} (h : PGs X es t) (q : t v σ H Q) : sGs X es v σ H Q := fun pins s u I r => h.run pins s σ H v u Q I r q
theorem sSs_of {st : List Stmt} {t : TS} {E : Ends} (h : PSs X st t) (q : t E σ H) : sSs X st E σ H := fun pins s I => h.run pins s σ H E I q
end

structure Pw (X : Cx) (e : Expr) (δ : List Cell) (Q : D → Prop) : Prop where
  run : ∀ (G H : Hp) (σ : St), Ok G H σ δ → ∀ k : VK, (∀ v d G' H', Gr G H G' H' → DT G' v d → Q d → k v H') → sE X e σ H k
structure PwT (X : Cx) (e : Expr) (δ : List Cell) (Q : Bool → Prop) : Prop where
  run : ∀ (G H : Hp) (σ : St), Ok G H σ δ → ∀ k : Bool → Hp → Prop, (∀ b G' H', Gr G H G' H' → Q b → k b H') → sT X e σ H k
structure PwW (X : Cx) (e : Expr) (δ : List Cell) (Q : Bool → Prop) : Prop where
  run : ∀ (G H : Hp) (σ : St), Ok G H σ δ → ∀ k : Bool → Hp → Prop, (∀ b G' H', Gr G H G' H' → Q b → k b H') → sW X e σ H k
structure PwA (X : Cx) (es : List Expr) (δ : List Cell) (Q : List D → Prop) : Prop where
  run : ∀ (G H : Hp) (σ : St), Ok G H σ δ → ∀ k : List V → Hp → Prop, (∀ vs ds G' H', Gr G H G' H' → DTs G' vs ds → Q ds → k vs H') → sA X es σ H k
structure PwP (X : Cx) (e : Option Expr) (δ : List Cell) (Q : Option Int → Prop) : Prop where
  run : ∀ (G H : Hp) (σ : St), Ok G H σ δ → ∀ k : Option Int → Hp → Prop, (∀ o G' H', Gr G H G' H' → Q o → k o H') → sP X e σ H k

section
variable {X : Cx} {e a b c : Expr} {es : List Expr} {δ : List Cell} {Q : D → Prop} {QT : Bool → Prop} {pos p p2 : Pos} {x : Str}
theorem Pw.imp {Q' : D → Prop} (h : Pw X e δ Q) (i : ∀ d, Q d → Q' d) : Pw X e δ Q' := ⟨fun G H σ o k q => h.run G H σ o k fun v d G' H' g r z => q v d G' H' g r (i d z)⟩
theorem PwT.imp {Q Q' : Bool → Prop} (h : PwT X e δ Q) (i : ∀ d, Q d → Q' d) : PwT X e δ Q' := ⟨fun G H σ o k q => h.run G H σ o k fun b G' H' g z => q b G' H' g (i b z)⟩

theorem pw_name {i : Nat} {d : D} (hN : X.N[i]? = some x) (hv : Vis X.env.scope x) (he : δ[i]? = some (.im d)) (q : Q d) (hd : (x == ("__debug__" : Str)) = false := by decide) (hcd : (x == ("__classdict__" : Str)) = false := by decide) : Pw X (.Name x pos) δ Q :=
  ⟨fun G H σ o k f => by
    obtain ⟨v, hv', r⟩ := o.get he
    exact sE_of (pe_var hN hv hd hcd) ⟨v, hv', f v d G H (.refl o.sg) r q⟩⟩
theorem pw_int {i : Int} {j : Nat} (q : Q (.int i)) : Pw X (.Constant (.int i) j pos) δ Q := ⟨fun G H σ o k f => sE_of pe_int (f (.int i) (.int i) G H (.refl o.sg) (.int i) q)⟩
theorem pw_str {i : Str} {j : Nat} (q : Q (.str i)) : Pw X (.Constant (.str i) j pos) δ Q := ⟨fun G H σ o k f => sE_of pe_str (f (.str i) (.str i) G H (.refl o.sg) (.str i) q)⟩
theorem pw_bl {i : Bool} {j : Nat} (q : Q (.bl i)) : Pw X (.Constant (.bool i) j pos) δ Q := ⟨fun G H σ o k f => sE_of pe_bl (f (.bl i) (.bl i) G H (.refl o.sg) (.bl i) q)⟩
theorem pw_non {j : Nat} (q : Q .non) : Pw X (.Constant .none j pos) δ Q := ⟨fun G H σ o k f => sE_of pe_non (f .non .non G H (.refl o.sg) .non q)⟩
theorem pw_gint {i : Int} (hg : Gl X x) (hm : ∃ t, X.mg x = some (.int i t)) (q : Q (.int i)) (hd : (x == ("__debug__" : Str)) = false := by decide) : Pw X (.Name x pos) δ Q :=
  ⟨fun G H σ o k f => by
    obtain ⟨t, hm⟩ := hm
    exact sE_of (pe_glob (v := .int i) hg hm ⟨t, rfl⟩ hd) (f (.int i) (.int i) G H (.refl o.sg) (.int i) q)⟩

def OpD (r : R2) (P : D → D → D → Prop) : Prop := ∀ (G H : Hp) (x y : V) (d1 d2 d : D), Same G H → DT G x d1 → DT G y d2 → P d1 d2 d → ∀ k : VK, (∀ v G' H', Gr G H G' H' → DT G' v d → k v H') → r x y H k
theorem pw_two {r : R2} {P : D → D → D → Prop} (hd : OpD r P) (ha : Pw X a δ fun d1 => Pw X b δ fun d2 => ∃ d, P d1 d2 d ∧ Q d) {G H : Hp} {σ : St} (o : Ok G H σ δ) {k : VK} (f : ∀ v d G' H', Gr G H G' H' → DT G' v d → Q d → k v H') :
    tOp r (sE X a) (sE X b) σ H k := by
  refine ha.run G H σ o _ fun v1 d1 G1 H1 g1 r1 hb => hb.run G1 H1 σ (o.grow g1) _ fun v2 d2 G2 H2 g2 r2 hq => ?_
  obtain ⟨d, hp, q⟩ := hq
  exact hd G2 H2 v1 v2 d1 d2 d g2.sg (g2.dt r1) r2 hp k fun v G' H' g r => f v d G' H' ((g1.trans g2).trans g) r q
theorem pw_op {op : Operator} {r : R2} {P : D → D → D → Prop} (ho : OpR X (binaryOp op) r) (hd : OpD r P) (ha : Pw X a δ fun d1 => Pw X b δ fun d2 => ∃ d, P d1 d2 d ∧ Q d) : Pw X (.BinOp a op b pos) δ Q :=
  ⟨fun G H σ o k f => sE_of (pe_op ho pe_s pe_s) (pw_two hd ha o f)⟩
theorem pw_cmp {op : CmpOp} {r : R2} {P : D → D → D → Prop} (ho : OpR X (compareOp op) r) (hd : OpD r P) (hm : behindInMarks op b = false) (ha : Pw X a δ fun d1 => Pw X b δ fun d2 => ∃ d, P d1 d2 d ∧ Q d) : Pw X (.Compare a [op] [b] pos) δ Q :=
  ⟨fun G H σ o k f => sE_of (pe_cmpR ho pe_s pe_s hm) (pw_two hd ha o f)⟩
theorem pwt_cmp {op : CmpOp} {r : R2} {P : D → D → D → Prop} (ho : OpR X (compareOp op) r) (hd : OpD r P) (hm : behindInMarks op b = false) (ha : Pw X a δ fun d1 => Pw X b δ fun d2 => ∃ b, P d1 d2 (.bl b) ∧ QT b) : PwT X (.Compare a [op] [b] pos) δ QT :=
  ⟨fun G H σ o k f => sT_of (pt_cmpR ho pe_s pe_s hm) (by
    refine pw_two (Q := fun d => ∃ b, d = .bl b ∧ QT b) hd (ha.imp fun d1 h => h.imp fun d2 ⟨b, h1, h2⟩ => ⟨_, h1, b, rfl, h2⟩) o fun v d G' H' g r q => ?_
    obtain ⟨b, rfl, q⟩ := q
    cases r
    exact ⟨b, rfl, f b G' H' g q⟩)⟩

/-- what two scalars are -/
def PInt (g : Int → Int → D) : D → D → D → Prop := fun d1 d2 d => ∃ i j, d1 = .int i ∧ d2 = .int j ∧ d = g i j
theorem opD_I0 {g : Int → Int → V} {h : Int → Int → D} (e : ∀ (G : Hp) i j, DT G (g i j) (h i j)) : OpD (rI0 g) (PInt h) := fun G H x y d1 d2 d s r1 r2 ⟨i, j, e1, e2, e3⟩ k f => by
  subst e1 e2 e3
  cases r1; cases r2
  exact ⟨i, j, rfl, rfl, f _ G H (.refl s) (e G i j)⟩
def PIntC (C : Int → Int → Prop) (g : Int → Int → D) : D → D → D → Prop := fun d1 d2 d => ∃ i j, d1 = .int i ∧ d2 = .int j ∧ C i j ∧ d = g i j
theorem opD_I {C : Int → Int → Prop} {g : Int → Int → V} {h : Int → Int → D} (e : ∀ (G : Hp) i j, DT G (g i j) (h i j)) : OpD (rI C g) (PIntC C h) := fun G H x y d1 d2 d s r1 r2 ⟨i, j, e1, e2, c, e3⟩ k f => by
  subst e1 e2 e3
  cases r1; cases r2
  exact ⟨i, j, rfl, rfl, c, f _ G H (.refl s) (e G i j)⟩
theorem pw_add (ha : Pw X a δ fun d1 => Pw X b δ fun d2 => ∃ i j, d1 = .int i ∧ d2 = .int j ∧ Q (.int (i + j))) : Pw X (.BinOp a .Add b pos) δ Q :=
  pw_op op_add (opD_I0 (h := fun i j => .int (i + j)) fun _ i j => .int _) (ha.imp fun _ h => h.imp fun _ ⟨i, j, e1, e2, q⟩ => ⟨_, ⟨i, j, e1, e2, rfl⟩, q⟩)
theorem pw_sub (ha : Pw X a δ fun d1 => Pw X b δ fun d2 => ∃ i j, d1 = .int i ∧ d2 = .int j ∧ Q (.int (i - j))) : Pw X (.BinOp a .Sub b pos) δ Q :=
  pw_op op_sub (opD_I0 (h := fun i j => .int (i - j)) fun _ i j => .int _) (ha.imp fun _ h => h.imp fun _ ⟨i, j, e1, e2, q⟩ => ⟨_, ⟨i, j, e1, e2, rfl⟩, q⟩)
theorem pw_mul (ha : Pw X a δ fun d1 => Pw X b δ fun d2 => ∃ i j, d1 = .int i ∧ d2 = .int j ∧ CMul i j ∧ Q (.int (i * j))) : Pw X (.BinOp a .Mult b pos) δ Q :=
  pw_op op_mul (opD_I (h := fun i j => .int (i * j)) fun _ i j => .int _) (ha.imp fun _ h => h.imp fun _ ⟨i, j, e1, e2, c, q⟩ => ⟨_, ⟨i, j, e1, e2, c, rfl⟩, q⟩)
theorem pw_fdiv (ha : Pw X a δ fun d1 => Pw X b δ fun d2 => ∃ i j, d1 = .int i ∧ d2 = .int j ∧ CDiv i j ∧ Q (.int (i / j))) : Pw X (.BinOp a .FloorDiv b pos) δ Q :=
  pw_op op_fdiv (opD_I (h := fun i j => .int (i / j)) fun _ i j => .int _) (ha.imp fun _ h => h.imp fun _ ⟨i, j, e1, e2, c, q⟩ => ⟨_, ⟨i, j, e1, e2, c, rfl⟩, q⟩)
theorem pw_mod (ha : Pw X a δ fun d1 => Pw X b δ fun d2 => ∃ i j, d1 = .int i ∧ d2 = .int j ∧ 0 < j ∧ Q (.int (i % j))) : Pw X (.BinOp a .Mod b pos) δ Q :=
  pw_op op_mod (opD_I (h := fun i j => .int (i % j)) fun _ i j => .int _) (ha.imp fun _ h => h.imp fun _ ⟨i, j, e1, e2, c, q⟩ => ⟨_, ⟨i, j, e1, e2, c, rfl⟩, q⟩)
theorem pw_pow (ha : Pw X a δ fun d1 => Pw X b δ fun d2 => ∃ i j, d1 = .int i ∧ d2 = .int j ∧ CPow i j ∧ Q (.int (i ^ j.toNat))) : Pw X (.BinOp a .Pow b pos) δ Q :=
  pw_op op_pow (opD_I (h := fun i j => .int (i ^ j.toNat)) fun _ i j => .int _) (ha.imp fun _ h => h.imp fun _ ⟨i, j, e1, e2, c, q⟩ => ⟨_, ⟨i, j, e1, e2, c, rfl⟩, q⟩)
theorem pw_neg {i : Int} {j : Nat} {p2 : Pos} (q : Q (.int (-i))) : Pw X (.UnaryOp .USub (.Constant (.int i) j p2) pos) δ Q :=
  ⟨fun G H σ o k f => sE_of (pe_un un_neg pe_int) ⟨i, rfl, f (.int (-i)) (.int (-i)) G H (.refl o.sg) (.int _) q⟩⟩

theorem opD_C {g : Int → Int → Bool} : OpD (rI0 fun i j => .bl (g i j)) (PInt fun i j => .bl (g i j)) := opD_I0 fun _ i j => .bl _
theorem two_c {g : Int → Int → Bool} (ha : Pw X a δ fun d1 => Pw X b δ fun d2 => ∃ i j, d1 = .int i ∧ d2 = .int j ∧ Q (.bl (g i j))) : Pw X a δ fun d1 => Pw X b δ fun d2 => ∃ d, PInt (fun i j => .bl (g i j)) d1 d2 d ∧ Q d :=
  ha.imp fun _ h => h.imp fun _ ⟨i, j, e1, e2, q⟩ => ⟨_, ⟨i, j, e1, e2, rfl⟩, q⟩
theorem two_ct {g : Int → Int → Bool} (ha : Pw X a δ fun d1 => Pw X b δ fun d2 => ∃ i j, d1 = .int i ∧ d2 = .int j ∧ QT (g i j)) : Pw X a δ fun d1 => Pw X b δ fun d2 => ∃ d, PInt (fun i j => .bl (g i j)) d1 d2 (.bl d) ∧ QT d :=
  ha.imp fun _ h => h.imp fun _ ⟨i, j, e1, e2, q⟩ => ⟨_, ⟨i, j, e1, e2, rfl⟩, q⟩
theorem pw_lt (ha : Pw X a δ fun d1 => Pw X b δ fun d2 => ∃ i j, d1 = .int i ∧ d2 = .int j ∧ Q (.bl (decide (i < j)))) : Pw X (.Compare a [.Lt] [b] pos) δ Q := pw_cmp op_lt opD_C (nomark _) (two_c ha)
theorem pw_le (ha : Pw X a δ fun d1 => Pw X b δ fun d2 => ∃ i j, d1 = .int i ∧ d2 = .int j ∧ Q (.bl (decide (i ≤ j)))) : Pw X (.Compare a [.LtE] [b] pos) δ Q := pw_cmp op_le opD_C (nomark _) (two_c ha)
theorem pw_gt (ha : Pw X a δ fun d1 => Pw X b δ fun d2 => ∃ i j, d1 = .int i ∧ d2 = .int j ∧ Q (.bl (decide (j < i)))) : Pw X (.Compare a [.Gt] [b] pos) δ Q := pw_cmp op_gt opD_C (nomark _) (two_c (g := fun i j => decide (j < i)) ha)
theorem pw_ge (ha : Pw X a δ fun d1 => Pw X b δ fun d2 => ∃ i j, d1 = .int i ∧ d2 = .int j ∧ Q (.bl (decide (j ≤ i)))) : Pw X (.Compare a [.GtE] [b] pos) δ Q := pw_cmp op_ge opD_C (nomark _) (two_c (g := fun i j => decide (j ≤ i)) ha)
theorem pwt_lt (ha : Pw X a δ fun d1 => Pw X b δ fun d2 => ∃ i j, d1 = .int i ∧ d2 = .int j ∧ QT (decide (i < j))) : PwT X (.Compare a [.Lt] [b] pos) δ QT := pwt_cmp op_lt opD_C (nomark _) (two_ct ha)
theorem pwt_le (ha : Pw X a δ fun d1 => Pw X b δ fun d2 => ∃ i j, d1 = .int i ∧ d2 = .int j ∧ QT (decide (i ≤ j))) : PwT X (.Compare a [.LtE] [b] pos) δ QT := pwt_cmp op_le opD_C (nomark _) (two_ct ha)
theorem pwt_gt (ha : Pw X a δ fun d1 => Pw X b δ fun d2 => ∃ i j, d1 = .int i ∧ d2 = .int j ∧ QT (decide (j < i))) : PwT X (.Compare a [.Gt] [b] pos) δ QT := pwt_cmp op_gt opD_C (nomark _) (two_ct (g := fun i j => decide (j < i)) ha)
theorem pwt_ge (ha : Pw X a δ fun d1 => Pw X b δ fun d2 => ∃ i j, d1 = .int i ∧ d2 = .int j ∧ QT (decide (j ≤ i))) : PwT X (.Compare a [.GtE] [b] pos) δ QT := pwt_cmp op_ge opD_C (nomark _) (two_ct (g := fun i j => decide (j ≤ i)) ha)

def toV : D → Option V
  | .non => some .non | .bl b => some (.bl b) | .int i => some (.int i) | .str x => some (.str x)
  | _ => none
/-- == told for two scalars that are not an int beside a bool -/
def seq : D → D → Option Bool
  | .non, .non => some true
  | .int i, .int j => some (decide (i = j))
  | .bl i, .bl j => some (decide (i = j))
  | .str i, .str j => some (decide (i = j))
  | .non, .int _ => some false | .int _, .non => some false | .non, .bl _ => some false | .bl _, .non => some false | .non, .str _ => some false | .str _, .non => some false
  | .int _, .str _ => some false | .str _, .int _ => some false | .bl _, .str _ => some false | .str _, .bl _ => some false
  | _, _ => none
theorem seq_ok {G : Hp} {x y : V} {d e : D} {b : Bool} (r1 : DT G x d) (r2 : DT G y e) (h : seq d e = some b) : scal x y = true ∧ decide (x = y) = b := by
  cases r1 <;> cases r2 <;> simp_all [seq, scal]
def PSeq : D → D → D → Prop := fun d e r => ∃ b, seq d e = some b ∧ r = .bl b
def PSne : D → D → D → Prop := fun d e r => ∃ b, seq d e = some b ∧ r = .bl (!b)
theorem opD_eq : OpD rEq PSeq := fun G H x y d1 d2 d s r1 r2 ⟨b, h, e⟩ k f => by
  obtain ⟨h1, h2⟩ := seq_ok r1 r2 h
  subst e
  exact ⟨h1, by rw [h2]; exact f _ G H (.refl s) (.bl b)⟩
theorem opD_ne : OpD rNe PSne := fun G H x y d1 d2 d s r1 r2 ⟨b, h, e⟩ k f => by
  obtain ⟨h1, h2⟩ := seq_ok r1 r2 h
  subst e
  exact ⟨h1, by rw [h2]; exact f _ G H (.refl s) (.bl _)⟩
theorem pw_eq (ha : Pw X a δ fun d1 => Pw X b δ fun d2 => ∃ r, seq d1 d2 = some r ∧ Q (.bl r)) : Pw X (.Compare a [.Eq] [b] pos) δ Q := pw_cmp op_eq opD_eq (nomark _) (ha.imp fun _ h => h.imp fun _ ⟨r, h1, h2⟩ => ⟨_, ⟨r, h1, rfl⟩, h2⟩)
theorem pw_ne (ha : Pw X a δ fun d1 => Pw X b δ fun d2 => ∃ r, seq d1 d2 = some r ∧ Q (.bl (!r))) : Pw X (.Compare a [.NotEq] [b] pos) δ Q := pw_cmp op_ne opD_ne (nomark _) (ha.imp fun _ h => h.imp fun _ ⟨r, h1, h2⟩ => ⟨_, ⟨r, h1, rfl⟩, h2⟩)
theorem pwt_eq (ha : Pw X a δ fun d1 => Pw X b δ fun d2 => ∃ r, seq d1 d2 = some r ∧ QT r) : PwT X (.Compare a [.Eq] [b] pos) δ QT := pwt_cmp op_eq opD_eq (nomark _) (ha.imp fun _ h => h.imp fun _ ⟨r, h1, h2⟩ => ⟨_, ⟨r, h1, rfl⟩, h2⟩)
theorem pwt_ne (ha : Pw X a δ fun d1 => Pw X b δ fun d2 => ∃ r, seq d1 d2 = some r ∧ QT (!r)) : PwT X (.Compare a [.NotEq] [b] pos) δ QT := pwt_cmp op_ne opD_ne (nomark _) (ha.imp fun _ h => h.imp fun _ ⟨r, h1, h2⟩ => ⟨_, ⟨r, h1, rfl⟩, h2⟩)

theorem pw_and {rest : List Expr} (ha : Pw X a δ fun d => ∃ c, d = .bl c ∧ (c = true → Pw X (.BoolOp .And (b :: rest) pos) δ Q) ∧ (c = false → Q (.bl false))) : Pw X (.BoolOp .And (a :: b :: rest) pos) δ Q :=
  ⟨fun G H σ o k f => sE_of (pe_and pe_s pe_s) (ha.run G H σ o _ fun v d G1 H1 g1 r1 ⟨c, e, h1, h2⟩ => by
    subst e; cases r1
    refine ⟨c, rfl, ?_⟩
    cases c with
    | true => exact (h1 rfl).run G1 H1 σ (o.grow g1) k fun v d G' H' g r q => f v d G' H' (g1.trans g) r q
    | false => exact f _ _ G1 H1 g1 (.bl false) (h2 rfl))⟩
theorem pw_or {rest : List Expr} (ha : Pw X a δ fun d => ∃ c, d = .bl c ∧ (c = false → Pw X (.BoolOp .Or (b :: rest) pos) δ Q) ∧ (c = true → Q (.bl true))) : Pw X (.BoolOp .Or (a :: b :: rest) pos) δ Q :=
  ⟨fun G H σ o k f => sE_of (pe_or pe_s pe_s) (ha.run G H σ o _ fun v d G1 H1 g1 r1 ⟨c, e, h1, h2⟩ => by
    subst e; cases r1
    refine ⟨c, rfl, ?_⟩
    cases c with
    | false => exact (h1 rfl).run G1 H1 σ (o.grow g1) k fun v d G' H' g r q => f v d G' H' (g1.trans g) r q
    | true => exact f _ _ G1 H1 g1 (.bl true) (h2 rfl))⟩
theorem pw_one {op : BoolOp} (h : Pw X a δ Q) : Pw X (.BoolOp op [a] pos) δ Q := ⟨fun G H σ o k f => sE_of (pe_one pe_s) (h.run G H σ o k f)⟩
theorem pw_not (ha : Pw X a δ fun d => ∃ c, d = .bl c ∧ Q (.bl (!c))) : Pw X (.UnaryOp .Not a pos) δ Q :=
  ⟨fun G H σ o k f => sE_of (pe_not pe_s) (ha.run G H σ o _ fun v d G1 H1 g1 r1 ⟨c, e, q⟩ => by subst e; cases r1; exact ⟨c, rfl, f _ _ G1 H1 g1 (.bl _) q⟩)⟩
theorem pw_ife (hc : PwT X c δ fun t => (t = true → Pw X a δ Q) ∧ (t = false → Pw X b δ Q)) : Pw X (.IfExp c a b pos) δ Q :=
  ⟨fun G H σ o k f => sE_of (pe_ifExp pt_s pe_s pe_s) (hc.run G H σ o _ fun t G1 H1 g1 ⟨h1, h2⟩ => by
    cases t with
    | true => exact (h1 rfl).run G1 H1 σ (o.grow g1) k fun v d G' H' g r q => f v d G' H' (g1.trans g) r q
    | false => exact (h2 rfl).run G1 H1 σ (o.grow g1) k fun v d G' H' g r q => f v d G' H' (g1.trans g) r q)⟩
theorem pwt_w {op : BoolOp} {vs : List Expr} (h : PwW X (.BoolOp op vs pos) δ QT) : PwT X (.BoolOp op vs pos) δ QT := ⟨fun G H σ o k f => sT_of pw_s.pt (h.run G H σ o k f)⟩
theorem pww_and {rest : List Expr} (ha : PwT X a δ fun t => (t = true → PwW X (.BoolOp .And (b :: rest) pos) δ QT) ∧ (t = false → QT false)) : PwW X (.BoolOp .And (a :: b :: rest) pos) δ QT :=
  ⟨fun G H σ o k f => sW_of (L2.pw_and pt_s pw_s) (ha.run G H σ o _ fun t G1 H1 g1 ⟨h1, h2⟩ => by
    cases t with
    | true => exact (h1 rfl).run G1 H1 σ (o.grow g1) k fun b G' H' g q => f b G' H' (g1.trans g) q
    | false => exact f false G1 H1 g1 (h2 rfl))⟩
theorem pww_or {rest : List Expr} (ha : PwT X a δ fun t => (t = false → PwW X (.BoolOp .Or (b :: rest) pos) δ QT) ∧ (t = true → QT true)) : PwW X (.BoolOp .Or (a :: b :: rest) pos) δ QT :=
  ⟨fun G H σ o k f => sW_of (L2.pw_or pt_s pw_s) (ha.run G H σ o _ fun t G1 H1 g1 ⟨h1, h2⟩ => by
    cases t with
    | false => exact (h1 rfl).run G1 H1 σ (o.grow g1) k fun b G' H' g q => f b G' H' (g1.trans g) q
    | true => exact f true G1 H1 g1 (h2 rfl))⟩
theorem pww_and1 (ha : PwT X a δ QT) : PwW X (.BoolOp .And [a] pos) δ QT := ⟨fun G H σ o k f => sW_of (pw_and1 pt_s) (ha.run G H σ o k f)⟩
theorem pww_or1 (ha : PwT X a δ QT) : PwW X (.BoolOp .Or [a] pos) δ QT := ⟨fun G H σ o k f => sW_of (pw_or1 pt_s) (ha.run G H σ o k f)⟩
theorem pwt_not (ha : PwT X a δ fun t => QT (!t)) : PwT X (.UnaryOp .Not a pos) δ QT := ⟨fun G H σ o k f => sT_of (pt_not pt_s) (ha.run G H σ o _ fun b G' H' g q => f _ G' H' g q)⟩
/-- a datum's truth -/
def tru : D → Option Bool
  | .non => some false | .bl b => some b | .int i => some (i != 0) | .tup l => some (!l.isEmpty) | .lst l => some (!l.isEmpty)
  | _ => none
theorem isEmpty_dts {G : Hp} {vs : List V} {ds : List D} (r : DTs G vs ds) : vs.isEmpty = ds.isEmpty := by cases r <;> rfl
theorem tru_ok' {K : PySem.W.Frag} {G H : Hp} (s : Same G H) {v : V} {d : D} {b : Bool} (r : DT G v d) (h : tru d = some b) : TruV K v H b := by
  cases r with
  | non => exact (Option.some.inj h).symm
  | bl _ => exact (Option.some.inj h).symm
  | int _ => exact (Option.some.inj h).symm
  | str _ => cases h
  | tup e z r => exact .inr (.inl ⟨_, .of (s _ _ e), by rw [isEmpty_dts r]; exact (Option.some.inj h).symm⟩)
  | lst e z r => exact .inl ⟨_, .of (s _ _ e), by rw [isEmpty_dts r]; exact (Option.some.inj h).symm⟩
  | tab _ => cases h
  | imp _ => cases h
  | ik _ => cases h
theorem pwt_tru (he : ∀ whole, isTrue a X.env whole = (do let v ← whole; standAt a.pos; holding [v] (truthy v))) (ha : Pw X a δ fun d => ∃ t, tru d = some t ∧ QT t) : PwT X a δ QT :=
  ⟨fun G H σ o k f => sT_of (pt_truth pe_s he) (ha.run G H σ o _ fun v d G1 H1 g1 r1 ⟨t, e, q⟩ => ⟨t, tru_ok' g1.sg r1 e, f t G1 H1 g1 q⟩)⟩

theorem pwa_nil {Q : List D → Prop} (q : Q []) : PwA X [] δ Q := ⟨fun G H σ o k f => sA_of pa_nil (f [] [] G H (.refl o.sg) .nil q)⟩
theorem pwa_cons {Q : List D → Prop} (ha : Pw X e δ fun d => PwA X es δ fun ds => Q (d :: ds)) (hs : starEach (e :: es) X.env = (false, eval e X.env) :: starEach es X.env := by rfl) : PwA X (e :: es) δ Q :=
  ⟨fun G H σ o k f => sA_of (pa_cons pe_s pa_s hs) (ha.run G H σ o _ fun v d G1 H1 g1 r1 h => h.run G1 H1 σ (o.grow g1) _ fun vs ds G2 H2 g2 r2 q => f (v :: vs) (d :: ds) G2 H2 (g1.trans g2) (.cons (g2.dt r1) r2) q)⟩
theorem pw_tup {x1 : Nat} (h : PwA X es δ fun ds => ds.length ≤ sizeLine ∧ Q (.tup ds)) : Pw X (.Tuple es x1 pos) δ Q :=
  ⟨fun G H σ o k f => sE_of (pe_tup pa_s) (h.run G H σ o _ fun vs ds G1 H1 g1 r ⟨z, q⟩ => ⟨by rw [r.length]; exact z, fun p hp => f (.ref p) (.tup ds) _ _ (g1.trans (.new g1.sg hp)) (.tup upd_same z ((Gr.new g1.sg hp).dts r)) q⟩)⟩
theorem pw_lst (h : PwA X es δ fun ds => ds.length ≤ sizeLine ∧ Q (.lst ds)) : Pw X (.List es pos) δ Q :=
  ⟨fun G H σ o k f => sE_of (pe_lst pa_s) (h.run G H σ o _ fun vs ds G1 H1 g1 r ⟨z, q⟩ => ⟨by rw [r.length]; exact z, fun p hp => f (.ref p) (.lst ds) _ _ (g1.trans (.new g1.sg hp)) (.lst upd_same z ((Gr.new g1.sg hp).dts r)) q⟩)⟩
theorem le_line {n : Nat} (h : n ≤ 100000) : n ≤ sizeLine := Nat.le_trans h (by decide)

theorem at_ok {G : Hp} {vs : List V} {ds : List D} (r : DTs G vs ds) {i : Int} {d : D} (h : atI ds i = some d) : ∃ v, atI vs i = some v ∧ DT G v d := by
  unfold atI at h ⊢
  rw [r.length]
  obtain ⟨j, h1, h2⟩ := Option.bind_eq_some_iff.mp h
  obtain ⟨v, h3, h4⟩ := r.get h2
  exact ⟨v, by rw [h1]; exact h3, h4⟩
def items : D → Option (List D)
  | .tup l => some l | .lst l => some l | _ => none
theorem pw_ix (ha : Pw X a δ fun d1 => Pw X b δ fun d2 => ∃ l i d, items d1 = some l ∧ d2 = .int i ∧ atI l i = some d ∧ Q d) (hs : PlainIx b := by exact fun _ _ => rfl) : Pw X (.Subscript a b pos) δ Q :=
  ⟨fun G H σ o k f => sE_of (pe_ix ix_seq pe_s pe_s hs) (ha.run G H σ o _ fun v1 d1 G1 H1 g1 r1 hb => hb.run G1 H1 σ (o.grow g1) _ fun v2 d2 G2 H2 g2 r2 ⟨l, i, d, e1, e2, e3, q⟩ => by
    subst e2; cases r2
    have r1' := g2.dt r1
    cases r1' with
    | tup e z r =>
      cases e1
      obtain ⟨v, h1, h2⟩ := at_ok r e3
      exact .inr (.inl ⟨_, _, i, v, rfl, rfl, .of (g2.sg _ _ e), h1, f v d G2 H2 (g1.trans g2) h2 q⟩)
    | lst e z r =>
      cases e1
      obtain ⟨v, h1, h2⟩ := at_ok r e3
      exact .inl ⟨_, _, i, v, rfl, rfl, .of (g2.sg _ _ e), h1, f v d G2 H2 (g1.trans g2) h2 q⟩
    | _ => cases e1)⟩
theorem pwp_none {Q : Option Int → Prop} (q : Q none) : PwP X none δ Q := ⟨fun G H σ o k f => sP_of po_none (f none G H (.refl o.sg) q)⟩
theorem pwp_some {Q : Option Int → Prop} (h : Pw X e δ fun d => ∃ i, d = .int i ∧ Q (some i)) : PwP X (some e) δ Q :=
  ⟨fun G H σ o k f => sP_of (po_some pe_s) (h.run G H σ o _ fun v d G1 H1 g1 r1 ⟨i, e, q⟩ => by subst e; cases r1; exact ⟨i, rfl, f (some i) G1 H1 g1 q⟩)⟩
/-- the items of l[lo:hi] -/
def cutD (l : List D) (lo hi : Option Int) : List D := (l.drop (HT.sIx l.length 0 lo)).take (HT.sIx l.length l.length hi - HT.sIx l.length 0 lo)
theorem cut_ok {G : Hp} {vs : List V} {ds : List D} (r : DTs G vs ds) (lo hi : Option Int) : DTs G (cutV vs lo hi) (cutD ds lo hi) := by
  unfold cutV cutD
  rw [r.length]
  exact (r.drop _).take _
theorem cutD_len (l : List D) (lo hi : Option Int) : (cutD l lo hi).length ≤ l.length := by
  unfold cutD
  rw [List.length_take, List.length_drop]
  omega
theorem cutD_whole (l : List D) {lo hi : Option Int} (h : HT.sIx l.length 0 lo = 0 ∧ HT.sIx l.length l.length hi = l.length) : cutD l lo hi = l := by
  unfold cutD
  rw [h.1, h.2]
  simp
theorem pw_slice {lo hi : Option Expr} (ha : Pw X a δ fun d => PwP X lo δ fun u => PwP X hi δ fun v => ∃ l, d = .tup l ∧ Q (.tup (cutD l u v))) : Pw X (.Subscript a (.Slice lo hi none p2) pos) δ Q :=
  ⟨fun G H σ o k f => sE_of (pe_slice sl_tupA pe_s po_s po_s) (ha.run G H σ o _ fun v1 d1 G1 H1 g1 r1 h => h.run G1 H1 σ (o.grow g1) _ fun u G2 H2 g2 h => h.run G2 H2 σ ((o.grow g1).grow g2) _ fun w G3 H3 g3 ⟨l, e, q⟩ => by
    subst e
    have r1' := (g2.trans g3).dt r1
    cases r1' with
    | tup e z r =>
      refine ⟨_, _, rfl, .of (g3.sg _ _ e), fun h => ?_, fun _ p hp => ?_⟩
      · refine f _ _ G3 H3 ((g1.trans g2).trans g3) (.tup e (Nat.le_trans (cutD_len _ _ _) z) ?_) q
        rw [cutD_whole l (by rw [← r.length]; exact h)]
        exact r
      · exact f _ _ _ _ (((g1.trans g2).trans g3).trans (.new g3.sg hp)) (.tup upd_same (Nat.le_trans (cutD_len _ _ _) z) ((Gr.new g3.sg hp).dts (cut_ok r u w))) q)⟩
end
end AL
namespace AL
open PySem PySem.Spec PyProof.Rows L2

def spP (Rl : List D → D → Prop) : Sp := fun vs H Q _ => ∃ G ds r, Same G H ∧ DTs G vs ds ∧ Rl ds r ∧ ∀ v G' H', Gr G H G' H' → DT G' v r → Q v H'
structure FnP (P : Program) (w : World) (K : PySem.W.Frag) (mg : Str → Option Value) (base : Heap) (x : Str) (k : Nat) (Rl : List D → D → Prop) : Prop where
  ex : ∃ f fd ps, mg x = some (.ref f) ∧ PySem.W.keepIn K (.ref f) = true ∧ Binds K fd ps [] ∧ FnOk P w K mg base CX0 k f fd ps (spP Rl)
theorem FnP.mono {P : Program} {w : World} {K : PySem.W.Frag} {mg : Str → Option Value} {base : Heap} {x : Str} {j k : Nat} {Rl : List D → D → Prop} (F : FnP P w K mg base x j Rl) (h : j ≤ k) : FnP P w K mg base x k Rl := by
  obtain ⟨f, fd, ps, h1, h2, h3, h4⟩ := F.ex
  exact ⟨f, fd, ps, h1, h2, h3, h4.mono h⟩

section
variable {X : Cx} {e a b c : Expr} {es : List Expr} {δ : List Cell} {Q : D → Prop} {QT : Bool → Prop} {pos p p2 : Pos} {x : Str}
theorem pw_call {j k : Nat} {Rl : List D → D → Prop} (F : FnP X.prog X.w X.K X.mg X.base x j Rl) (hr : Room k X.A) (hk : j ≤ k) (hg : Gl X x) (ha : PwA X (e :: es) δ fun ds => ∃ r, Rl ds r ∧ Q r) (hdb : (x == ("__debug__" : Str)) = false := by decide)
    (he : starEach (e :: es) X.env = (false, eval e X.env) :: starEach es X.env := by rfl) (hpl : (backTo pos (starEach es X.env)).any (·.1) = false := by rfl) : Pw X (.Call (.Name x p) (e :: es) [] pos) δ Q :=
  ⟨fun G H σ o k f => by
    obtain ⟨fa, fd, ps, h1, h2, h3, h4⟩ := F.ex
    refine sE_of (pe_call h4 (hr.mono hk) hg h1 h2 h3 .nil pass0 pa_s hdb he hpl) (ha.run G H σ o _ fun vs ds G1 H1 g1 r1 ⟨r, h, q⟩ => ?_)
    show spP Rl (vs ++ []) H1 k E0
    rw [List.append_nil]
    exact ⟨G1, ds, r, g1.sg, r1, h, fun v G' H' g z => f v r G' H' (g1.trans g) z q⟩⟩
theorem pw_call0 {j k : Nat} {Rl : List D → D → Prop} (F : FnP X.prog X.w X.K X.mg X.base x j Rl) (hr : Room k X.A) (hk : j ≤ k) (hg : Gl X x) (h : ∃ r, Rl [] r ∧ Q r) (hdb : (x == ("__debug__" : Str)) = false := by decide) : Pw X (.Call (.Name x p) [] [] pos) δ Q :=
  ⟨fun G H σ o k f => by
    obtain ⟨fa, fd, ps, h1, h2, h3, h4⟩ := F.ex
    obtain ⟨r, h, q⟩ := h
    refine sE_of (pe_call0 h4 (hr.mono hk) hg h1 h2 h3 .nil pass0 hdb) ?_
    show spP Rl ([] ++ []) H k E0
    exact ⟨G, [], r, o.sg, .nil, h, fun v G' H' g z => f v r G' H' g z q⟩⟩

def CallD (r : List V → Hp → VK → Prop) (P : List D → D → Prop) : Prop := ∀ (G H : Hp) (xs : List V) (ds : List D) (d : D), Same G H → DTs G xs ds → P ds d → ∀ k : VK, (∀ v G' H', Gr G H G' H' → DT G' v d → k v H') → r xs H k
theorem pw_bltn {id : String} {r : List V → Hp → VK → Prop} {P : List D → D → Prop} (hc : CallR X (.builtin id) r) (hd : CallD r P) (hg : Gl X x) (hm : X.mg x = none) (hv : bootBuiltins x = some (.builtin id)) (ha : PwA X (e :: es) δ fun ds => ∃ d, P ds d ∧ Q d)
    (hn : x ≠ "__name__" := by decide) (hdb : (x == ("__debug__" : Str)) = false := by decide)
    (he : starEach (e :: es) X.env = (false, eval e X.env) :: starEach es X.env := by rfl) (hpl : (backTo pos (starEach es X.env)).any (·.1) = false := by rfl) : Pw X (.Call (.Name x p) (e :: es) [] pos) δ Q :=
  ⟨fun G H σ o k f => sE_of (pe_callB hc hg hm hv pa_s hn hdb he hpl) (ha.run G H σ o _ fun vs ds G1 H1 g1 r1 ⟨d, h, q⟩ => hd G1 H1 vs ds d g1.sg r1 h k fun v G' H' g z => f v d G' H' (g1.trans g) z q)⟩
theorem pw_type {T : String} {r : List V → Hp → VK → Prop} {P : List D → D → Prop} (hc : CallR X (.type T) r) (hd : CallD r P) (hg : Gl X x) (hm : X.mg x = none) (hv : bootBuiltins x = some (.type T)) (ha : PwA X (e :: es) δ fun ds => ∃ d, P ds d ∧ Q d)
    (hn : x ≠ "__name__" := by decide) (hdb : (x == ("__debug__" : Str)) = false := by decide)
    (he : starEach (e :: es) X.env = (false, eval e X.env) :: starEach es X.env := by rfl) (hpl : (backTo pos (starEach es X.env)).any (·.1) = false := by rfl) : Pw X (.Call (.Name x p) (e :: es) [] pos) δ Q :=
  ⟨fun G H σ o k f => sE_of (pe_callTy hc hg hm hv pa_s hn hdb he hpl) (ha.run G H σ o _ fun vs ds G1 H1 g1 r1 ⟨d, h, q⟩ => hd G1 H1 vs ds d g1.sg r1 h k fun v G' H' g z => f v d G' H' (g1.trans g) z q)⟩

theorem DTs.one {G : Hp} {vs : List V} {d : D} (r : DTs G vs [d]) : ∃ v, vs = [v] ∧ DT G v d := by
  cases r with
  | cons h t => cases t; exact ⟨_, rfl, h⟩
theorem DTs.two {G : Hp} {vs : List V} {d e : D} (r : DTs G vs [d, e]) : ∃ v w, vs = [v, w] ∧ DT G v d ∧ DT G w e := by
  cases r with
  | cons h t =>
    obtain ⟨w, rfl, h2⟩ := t.one
    exact ⟨_, w, rfl, h, h2⟩
theorem DTs.ints {G : Hp} : ∀ {vs : List V} {is : List Int}, DTs G vs (is.map D.int) → vs = is.map V.int
  | [], [], _ => rfl
  | _ :: _, [], r => nomatch r
  | [], _ :: _, r => nomatch r
  | v :: vs, i :: is, .cons h t => by cases h; rw [List.map_cons, DTs.ints t]
theorem DTs.bls {G : Hp} : ∀ {vs : List V} {is : List Bool}, DTs G vs (is.map D.bl) → vs = is.map V.bl
  | [], [], _ => rfl
  | _ :: _, [], r => nomatch r
  | [], _ :: _, r => nomatch r
  | v :: vs, i :: is, .cons h t => by cases h; rw [List.map_cons, DTs.bls t]
theorem dts_ints {G : Hp} : ∀ (is : List Int), DTs G (is.map V.int) (is.map D.int)
  | [] => .nil
  | i :: r => .cons (.int i) (dts_ints r)

/-- len -/
def lenD : D → Option Nat
  | .tup l => some l.length | .lst l => some l.length | _ => none
theorem cd_len {K : PySem.W.Frag} : CallD (fun xs H Q => ∃ p ys, xs = [.ref p] ∧ (SqL K H p ys ∨ SqT K H p ys) ∧ Q (.int ys.length) H) (fun ds d => ∃ d1 n, ds = [d1] ∧ lenD d1 = some n ∧ d = .int (n : Int)) := by
  intro G H xs ds d s r ⟨d1, n, e1, e2, e3⟩ k f
  subst e1 e3
  obtain ⟨v, rfl, h⟩ := r.one
  cases h with
  | tup e z r2 =>
    cases e2
    refine ⟨_, _, rfl, .inr (.of (s _ _ e)), ?_⟩
    rw [r2.length]
    exact f _ G H (.refl s) (.int _)
  | lst e z r2 =>
    cases e2
    refine ⟨_, _, rfl, .inl (.of (s _ _ e)), ?_⟩
    rw [r2.length]
    exact f _ G H (.refl s) (.int _)
  | _ => cases e2
theorem pw_len (hm : X.mg "len" = none) (ha : PwA X [e] δ fun ds => ∃ d1 n, ds = [d1] ∧ lenD d1 = some n ∧ Q (.int (n : Int))) (hg : Gl X "len" := by rfl)
    (he : starEach [e] X.env = (false, eval e X.env) :: starEach [] X.env := by rfl) (hpl : (backTo pos (starEach [] X.env)).any (·.1) = false := by rfl) : Pw X (.Call (.Name "len" p) [e] [] pos) δ Q :=
  pw_bltn call_len_seq cd_len hg hm PySem.boot_len ⟨fun G H σ o k f => ha.run G H σ o k fun vs ds G' H' g r ⟨d1, n, e1, e2, q⟩ => f vs ds G' H' g r ⟨_, ⟨d1, n, e1, e2, rfl⟩, q⟩⟩ (by decide) (by decide) he hpl
theorem PwA.imp {Q Q' : List D → Prop} (h : PwA X es δ Q) (i : ∀ d, Q d → Q' d) : PwA X es δ Q' := ⟨fun G H σ o k q => h.run G H σ o k fun v d G' H' g r z => q v d G' H' g r (i d z)⟩
/-- any, all, sum -/
theorem cd_any {K : PySem.W.Frag} : CallD (rAny K) (fun ds d => ∃ bs : List Bool, ds = [.lst (bs.map .bl)] ∧ d = .bl (bs.any id)) := by
  intro G H xs ds d s r ⟨bs, e1, e3⟩ k f
  subst e1 e3
  obtain ⟨v, rfl, h⟩ := r.one
  cases h with
  | lst e z r => exact ⟨_, bs, rfl, .of (by rw [← r.bls]; exact s _ _ e), f _ G H (.refl s) (.bl _)⟩
theorem cd_all {K : PySem.W.Frag} : CallD (rAll K) (fun ds d => ∃ bs : List Bool, ds = [.lst (bs.map .bl)] ∧ d = .bl (bs.all id)) := by
  intro G H xs ds d s r ⟨bs, e1, e3⟩ k f
  subst e1 e3
  obtain ⟨v, rfl, h⟩ := r.one
  cases h with
  | lst e z r => exact ⟨_, bs, rfl, .of (by rw [← r.bls]; exact s _ _ e), f _ G H (.refl s) (.bl _)⟩
theorem cd_sum {K : PySem.W.Frag} : CallD (rSum K) (fun ds d => ∃ bs : List Int, ds = [.lst (bs.map .int)] ∧ d = .int bs.sum) := by
  intro G H xs ds d s r ⟨bs, e1, e3⟩ k f
  subst e1 e3
  obtain ⟨v, rfl, h⟩ := r.one
  cases h with
  | lst e z r => exact ⟨_, bs, rfl, .of (by rw [← r.ints]; exact s _ _ e), f _ G H (.refl s) (.int _)⟩
theorem pw_any (hc : X.calm = true) (hm : X.mg "any" = none) (ha : PwA X [e] δ fun ds => ∃ bs : List Bool, ds = [.lst (bs.map .bl)] ∧ Q (.bl (bs.any id))) (hg : Gl X "any" := by rfl)
    (he : starEach [e] X.env = (false, eval e X.env) :: starEach [] X.env := by rfl) (hpl : (backTo pos (starEach [] X.env)).any (·.1) = false := by rfl) : Pw X (.Call (.Name "any" p) [e] [] pos) δ Q :=
  pw_bltn (cr_any hc) cd_any hg hm PyProof.Rows.boot_any (ha.imp fun _ ⟨bs, e1, q⟩ => ⟨_, ⟨bs, e1, rfl⟩, q⟩) (by decide) (by decide) he hpl
theorem pw_all (hc : X.calm = true) (hm : X.mg "all" = none) (ha : PwA X [e] δ fun ds => ∃ bs : List Bool, ds = [.lst (bs.map .bl)] ∧ Q (.bl (bs.all id))) (hg : Gl X "all" := by rfl)
    (he : starEach [e] X.env = (false, eval e X.env) :: starEach [] X.env := by rfl) (hpl : (backTo pos (starEach [] X.env)).any (·.1) = false := by rfl) : Pw X (.Call (.Name "all" p) [e] [] pos) δ Q :=
  pw_bltn (cr_all hc) cd_all hg hm PyProof.Rows.boot_all (ha.imp fun _ ⟨bs, e1, q⟩ => ⟨_, ⟨bs, e1, rfl⟩, q⟩) (by decide) (by decide) he hpl
theorem bt_sum : bootBuiltins "sum" = some (.builtin "sum") := by decide +kernel
theorem bt_max : bootBuiltins "max" = some (.builtin "max") := by decide +kernel
theorem bt_min : bootBuiltins "min" = some (.builtin "min") := by decide +kernel
theorem bt_abs : bootBuiltins "abs" = some (.builtin "abs") := by decide +kernel
theorem bt_int : bootBuiltins "int" = some (.type "int") := by decide +kernel
theorem bt_isi : bootBuiltins "isinstance" = some (.builtin "isinstance") := by decide +kernel
theorem bt_sorted : bootBuiltins "sorted" = some (.builtin "sorted") := by decide +kernel
theorem bt_tuple : bootBuiltins "tuple" = some (.type "tuple") := by decide +kernel
theorem bt_list : bootBuiltins "list" = some (.type "list") := by decide +kernel
theorem bt_set : bootBuiltins "set" = some (.type "set") := by decide +kernel
theorem bt_bool : bootBuiltins "bool" = some (.type "bool") := by decide +kernel
theorem bt_str : bootBuiltins "str" = some (.type "str") := by decide +kernel
theorem pw_sum (hc : X.calm = true) (hm : X.mg "sum" = none) (ha : PwA X [e] δ fun ds => ∃ bs : List Int, ds = [.lst (bs.map .int)] ∧ Q (.int bs.sum)) (hg : Gl X "sum" := by rfl)
    (he : starEach [e] X.env = (false, eval e X.env) :: starEach [] X.env := by rfl) (hpl : (backTo pos (starEach [] X.env)).any (·.1) = false := by rfl) : Pw X (.Call (.Name "sum" p) [e] [] pos) δ Q :=
  pw_bltn (cr_sum hc) cd_sum hg hm bt_sum (ha.imp fun _ ⟨bs, e1, q⟩ => ⟨_, ⟨bs, e1, rfl⟩, q⟩) (by decide) (by decide) he hpl
/-- max of a list of ints -/
theorem cd_max {K : PySem.W.Frag} : CallD (rMax K) (fun ds d => ∃ (bs : List Int) (m : Int), ds = [.lst (bs.map .int)] ∧ m ∈ bs ∧ (∀ y ∈ bs, y ≤ m) ∧ d = .int m) := by
  intro G H xs ds d s r ⟨bs, m, e1, h1, h2, e3⟩ k f
  subst e1 e3
  obtain ⟨v, rfl, h⟩ := r.one
  cases h with
  | lst e z r =>
    refine ⟨_, bs, rfl, .of (by rw [← r.ints]; exact s _ _ e), List.length_pos_of_mem h1, fun m' h3 h4 => ?_⟩
    have e : m' = m := Int.le_antisymm (h2 m' h3) (h4 m h1)
    subst e
    exact f _ G H (.refl s) (.int _)
theorem pw_maxL (hc : X.calm = true) (hm : X.mg "max" = none) (ha : PwA X [e] δ fun ds => ∃ (bs : List Int) (m : Int), ds = [.lst (bs.map .int)] ∧ m ∈ bs ∧ (∀ y ∈ bs, y ≤ m) ∧ Q (.int m)) (hg : Gl X "max" := by rfl)
    (he : starEach [e] X.env = (false, eval e X.env) :: starEach [] X.env := by rfl) (hpl : (backTo pos (starEach [] X.env)).any (·.1) = false := by rfl) : Pw X (.Call (.Name "max" p) [e] [] pos) δ Q :=
  pw_bltn (cr_max hc) cd_max hg hm bt_max (ha.imp fun _ ⟨bs, m, e1, h1, h2, q⟩ => ⟨_, ⟨bs, m, e1, h1, h2, rfl⟩, q⟩) (by decide) (by decide) he hpl
theorem cd_2 {g : Int → Int → Int} : CallD (fun xs H Q => ∃ i j, xs = [.int i, .int j] ∧ Q (.int (g i j)) H) (fun ds d => ∃ i j, ds = [.int i, .int j] ∧ d = .int (g i j)) := by
  intro G H xs ds d s r ⟨i, j, e1, e3⟩ k f
  subst e1 e3
  obtain ⟨v, w, rfl, h, h'⟩ := r.two
  cases h; cases h'
  exact ⟨i, j, rfl, f _ G H (.refl s) (.int _)⟩
theorem pw_max2 (hc : X.calm = true) (hm : X.mg "max" = none) (ha : PwA X [e, a] δ fun ds => ∃ i j, ds = [.int i, .int j] ∧ Q (.int (if j > i then j else i))) (hg : Gl X "max" := by rfl)
    (he : starEach [e, a] X.env = (false, eval e X.env) :: starEach [a] X.env := by rfl) (hpl : (backTo pos (starEach [a] X.env)).any (·.1) = false := by rfl) : Pw X (.Call (.Name "max" p) [e, a] [] pos) δ Q :=
  pw_bltn (call_max2 hc) (cd_2 (g := fun i j => if j > i then j else i)) hg hm bt_max (ha.imp fun _ ⟨i, j, e1, q⟩ => ⟨_, ⟨i, j, e1, rfl⟩, q⟩) (by decide) (by decide) he hpl
theorem pw_min2 (hc : X.calm = true) (hm : X.mg "min" = none) (ha : PwA X [e, a] δ fun ds => ∃ i j, ds = [.int i, .int j] ∧ Q (.int (if j < i then j else i))) (hg : Gl X "min" := by rfl)
    (he : starEach [e, a] X.env = (false, eval e X.env) :: starEach [a] X.env := by rfl) (hpl : (backTo pos (starEach [a] X.env)).any (·.1) = false := by rfl) : Pw X (.Call (.Name "min" p) [e, a] [] pos) δ Q :=
  pw_bltn (call_min2 hc) (cd_2 (g := fun i j => if j < i then j else i)) hg hm bt_min (ha.imp fun _ ⟨i, j, e1, q⟩ => ⟨_, ⟨i, j, e1, rfl⟩, q⟩) (by decide) (by decide) he hpl
theorem pw_abs (hm : X.mg "abs" = none) (ha : PwA X [e] δ fun ds => ∃ i, ds = [.int i] ∧ Q (.int (if i < 0 then -i else i))) (hg : Gl X "abs" := by rfl)
    (he : starEach [e] X.env = (false, eval e X.env) :: starEach [] X.env := by rfl) (hpl : (backTo pos (starEach [] X.env)).any (·.1) = false := by rfl) : Pw X (.Call (.Name "abs" p) [e] [] pos) δ Q :=
  pw_bltn call_abs (P := fun ds d => ∃ i, ds = [.int i] ∧ d = .int (if i < 0 then -i else i)) (fun G H xs ds d s r ⟨i, e1, e3⟩ k f => by
    subst e1 e3
    obtain ⟨v, rfl, h⟩ := r.one
    cases h
    exact ⟨i, rfl, f _ G H (.refl s) (.int _)⟩) hg hm bt_abs (ha.imp fun _ ⟨i, e1, q⟩ => ⟨_, ⟨i, e1, rfl⟩, q⟩) (by decide) (by decide) he hpl
/-- int(..) of an int or a bool -/
def toI : D → Option Int
  | .int i => some i | .bl b => some (if b then 1 else 0) | _ => none
theorem pw_toInt (hm : X.mg "int" = none) (ha : PwA X [e] δ fun ds => ∃ d i, ds = [d] ∧ toI d = some i ∧ Q (.int i)) (hg : Gl X "int" := by rfl)
    (he : starEach [e] X.env = (false, eval e X.env) :: starEach [] X.env := by rfl) (hpl : (backTo pos (starEach [] X.env)).any (·.1) = false := by rfl) : Pw X (.Call (.Name "int" p) [e] [] pos) δ Q :=
  pw_type call_int1 (P := fun ds d => ∃ d1 i, ds = [d1] ∧ toI d1 = some i ∧ d = .int i) (fun G H xs ds d s r ⟨d1, i, e1, e2, e3⟩ k f => by
    subst e1 e3
    obtain ⟨v, rfl, h⟩ := r.one
    cases h with
    | int j => cases e2; exact .inl ⟨_, rfl, f _ G H (.refl s) (.int _)⟩
    | bl b => cases e2; exact .inr ⟨_, rfl, f _ G H (.refl s) (.int _)⟩
    | _ => cases e2) hg hm bt_int (ha.imp fun _ ⟨d, i, e1, e2, q⟩ => ⟨_, ⟨d, i, e1, e2, rfl⟩, q⟩) (by decide) (by decide) he hpl
/-- tuple(list), tuple(tuple), list(..) -/
theorem pw_tuple (hm : X.mg "tuple" = none) (ha : PwA X [e] δ fun ds => ∃ d l, ds = [d] ∧ items d = some l ∧ Q (.tup l)) (hg : Gl X "tuple" := by rfl)
    (he : starEach [e] X.env = (false, eval e X.env) :: starEach [] X.env := by rfl) (hpl : (backTo pos (starEach [] X.env)).any (·.1) = false := by rfl) : Pw X (.Call (.Name "tuple" p) [e] [] pos) δ Q :=
  pw_type call_tuple_of (P := fun ds d => ∃ d1 l, ds = [d1] ∧ items d1 = some l ∧ d = .tup l) (fun G H xs ds d s r ⟨d1, l, e1, e2, e3⟩ k f => by
    subst e1 e3
    obtain ⟨v, rfl, h⟩ := r.one
    cases h with
    | lst e z r2 => cases e2; exact ⟨_, _, rfl, .inl ⟨.of (s _ _ e), fun q hq => f _ _ _ (.new s hq) (.tup upd_same z ((Gr.new s hq).dts r2))⟩⟩
    | tup e z r2 => cases e2; exact ⟨_, _, rfl, .inr ⟨.of (s _ _ e), f _ G H (.refl s) (.tup e z r2)⟩⟩
    | _ => cases e2) hg hm bt_tuple (ha.imp fun _ ⟨d, i, e1, e2, q⟩ => ⟨_, ⟨d, i, e1, e2, rfl⟩, q⟩) (by decide) (by decide) he hpl

inductive TyN where
  | int | bool | str | tuple | list
def TyN.s : TyN → String
  | .int => "int" | .bool => "bool" | .str => "str" | .tuple => "tuple" | .list => "list"
def tyName : D → String
  | .non => "NoneType" | .bl _ => "bool" | .int _ => "int" | .str _ => "str" | .tup _ => "tuple" | .lst _ => "list" | .tab _ => "dict" | .imp _ => "dict" | .ik _ => "dict"
def isi : D → TyN → Bool
  | .bl _, .int => true | .bl _, .bool => true | .int _, .int => true | .str _, .str => true | .tup _, .tuple => true | .lst _, .list => true
  | _, _ => false
theorem isi_kit (d : D) (t : TyN) : kitB (tyName d) t.s = some (isi d t) := by
  cases d <;> cases t <;> (simp only [tyName, TyN.s, isi]; decide +kernel)
def notDict : D → Bool
  | .tab _ => false | .imp _ => false | .ik _ => false | _ => true
theorem ty_ok {K : PySem.W.Frag} {G H : Hp} (s : Same G H) {v : V} {d : D} (r : DT G v d) (nd : notDict d = true) : TyX K H v (.type (tyName d)) := by
  cases r with
  | non => exact .base .non
  | bl _ => exact .base (.bl _)
  | int _ => exact .base (.int _)
  | str _ => exact .base (.str _)
  | tup e z r => exact .base (.tup (s _ _ e))
  | lst e z r => exact .base (.lst (s _ _ e))
  | tab _ => cases nd
  | imp _ => cases nd
  | ik _ => cases nd
theorem bt_ty (t : TyN) : bootBuiltins (Str.ofString t.s) = some (.type t.s) := by cases t <;> decide +kernel
theorem pw_isiT (t : TyN) {xt : Str} (ht : xt = Str.ofString t.s) (hm : X.mg "isinstance" = none) (hmt : X.mg xt = none) (hgt : Gl X xt) (ha : Pw X e δ fun d => notDict d = true ∧ Q (.bl (isi d t))) (hg : Gl X "isinstance" := by rfl) (hn : xt ≠ "__name__" := by decide) (hd : (xt == ("__debug__" : Str)) = false := by decide)
    (he : starEach [e, .Name xt p2] X.env = (false, eval e X.env) :: starEach [.Name xt p2] X.env := by rfl) (he2 : starEach [.Name xt p2] X.env = (false, eval (.Name xt p2) X.env) :: starEach [] X.env := by rfl) (hpl : (backTo pos (starEach [.Name xt p2] X.env)).any (·.1) = false := by rfl) : Pw X (.Call (.Name "isinstance" p) [e, .Name xt p2] [] pos) δ Q :=
  ⟨fun G H σ o k f => sE_of (pe_callB call_isi hg hm bt_isi (pa_cons pe_s (pa_cons (pe_bltn (v := .ty t.s) hgt hmt (by rw [ht]; exact bt_ty t) rfl hn hd) pa_nil he2) he) (by decide) (by decide) he hpl) (ha.run G H σ o _ fun v d G1 H1 g1 r1 ⟨nd, q⟩ =>
    ⟨v, .ty t.s, _, _, isi d t, rfl, .ty _, ty_ok g1.sg r1 nd, kit_ty (isi_kit d t), f _ _ G1 H1 g1 (.bl _) q⟩)⟩
theorem pw_isi_int (hm : X.mg "isinstance" = none) (hmt : X.mg "int" = none) (ha : Pw X e δ fun d => notDict d = true ∧ Q (.bl (isi d .int))) (hg : Gl X "isinstance" := by rfl) (hgt : Gl X "int" := by rfl)
    (he : starEach [e, .Name "int" p2] X.env = (false, eval e X.env) :: starEach [.Name "int" p2] X.env := by rfl) (he2 : starEach [.Name "int" p2] X.env = (false, eval (.Name "int" p2) X.env) :: starEach [] X.env := by rfl) (hpl : (backTo pos (starEach [.Name "int" p2] X.env)).any (·.1) = false := by rfl) : Pw X (.Call (.Name "isinstance" p) [e, .Name "int" p2] [] pos) δ Q :=
  pw_isiT .int rfl hm hmt hgt ha hg (by decide) (by decide) he he2 hpl
theorem pw_isi_bool (hm : X.mg "isinstance" = none) (hmt : X.mg "bool" = none) (ha : Pw X e δ fun d => notDict d = true ∧ Q (.bl (isi d .bool))) (hg : Gl X "isinstance" := by rfl) (hgt : Gl X "bool" := by rfl)
    (he : starEach [e, .Name "bool" p2] X.env = (false, eval e X.env) :: starEach [.Name "bool" p2] X.env := by rfl) (he2 : starEach [.Name "bool" p2] X.env = (false, eval (.Name "bool" p2) X.env) :: starEach [] X.env := by rfl) (hpl : (backTo pos (starEach [.Name "bool" p2] X.env)).any (·.1) = false := by rfl) : Pw X (.Call (.Name "isinstance" p) [e, .Name "bool" p2] [] pos) δ Q :=
  pw_isiT .bool rfl hm hmt hgt ha hg (by decide) (by decide) he he2 hpl
theorem pw_isi_str (hm : X.mg "isinstance" = none) (hmt : X.mg "str" = none) (ha : Pw X e δ fun d => notDict d = true ∧ Q (.bl (isi d .str))) (hg : Gl X "isinstance" := by rfl) (hgt : Gl X "str" := by rfl)
    (he : starEach [e, .Name "str" p2] X.env = (false, eval e X.env) :: starEach [.Name "str" p2] X.env := by rfl) (he2 : starEach [.Name "str" p2] X.env = (false, eval (.Name "str" p2) X.env) :: starEach [] X.env := by rfl) (hpl : (backTo pos (starEach [.Name "str" p2] X.env)).any (·.1) = false := by rfl) : Pw X (.Call (.Name "isinstance" p) [e, .Name "str" p2] [] pos) δ Q :=
  pw_isiT .str rfl hm hmt hgt ha hg (by decide) (by decide) he he2 hpl
theorem pw_isi_tuple (hm : X.mg "isinstance" = none) (hmt : X.mg "tuple" = none) (ha : Pw X e δ fun d => notDict d = true ∧ Q (.bl (isi d .tuple))) (hg : Gl X "isinstance" := by rfl) (hgt : Gl X "tuple" := by rfl)
    (he : starEach [e, .Name "tuple" p2] X.env = (false, eval e X.env) :: starEach [.Name "tuple" p2] X.env := by rfl) (he2 : starEach [.Name "tuple" p2] X.env = (false, eval (.Name "tuple" p2) X.env) :: starEach [] X.env := by rfl) (hpl : (backTo pos (starEach [.Name "tuple" p2] X.env)).any (·.1) = false := by rfl) : Pw X (.Call (.Name "isinstance" p) [e, .Name "tuple" p2] [] pos) δ Q :=
  pw_isiT .tuple rfl hm hmt hgt ha hg (by decide) (by decide) he he2 hpl
theorem pw_isi_list (hm : X.mg "isinstance" = none) (hmt : X.mg "list" = none) (ha : Pw X e δ fun d => notDict d = true ∧ Q (.bl (isi d .list))) (hg : Gl X "isinstance" := by rfl) (hgt : Gl X "list" := by rfl)
    (he : starEach [e, .Name "list" p2] X.env = (false, eval e X.env) :: starEach [.Name "list" p2] X.env := by rfl) (he2 : starEach [.Name "list" p2] X.env = (false, eval (.Name "list" p2) X.env) :: starEach [] X.env := by rfl) (hpl : (backTo pos (starEach [.Name "list" p2] X.env)).any (·.1) = false := by rfl) : Pw X (.Call (.Name "isinstance" p) [e, .Name "list" p2] [] pos) δ Q :=
  pw_isiT .list rfl hm hmt hgt ha hg (by decide) (by decide) he he2 hpl
theorem pwt_val (he : ∀ whole, isTrue a X.env whole = (do let v ← whole; standAt a.pos; holding [v] (truthy v)) := by intro _; rfl) (ha : Pw X a δ fun d => ∃ t, d = .bl t ∧ QT t) : PwT X a δ QT :=
  ⟨fun G H σ o k f => sT_of (pt_val pe_s he) (ha.run G H σ o _ fun v d G1 H1 g1 r1 ⟨t, e, q⟩ => by subst e; cases r1; exact ⟨t, rfl, f t G1 H1 g1 q⟩)⟩

def flatD (d : D) : Bool := (toV d).isSome
def eqF : D → D → Bool
  | .non, .non => true
  | .bl a, .bl b => a == b
  | .bl a, .int b => (if a then 1 else 0) == b
  | .int a, .bl b => a == (if b then 1 else 0)
  | .int a, .int b => a == b
  | .str a, .str b => a == b
  | _, _ => false
def inD (x : D) (l : List D) : Bool := l.any fun y => eqF y x
theorem flat_ok {G : Hp} {v : V} {d : D} (r : DT G v d) (h : flatD d = true) : flatV v = true := by
  cases r <;> first | rfl | cases h
theorem eqF_ok {G : Hp} {v w : V} {d e : D} (r : DT G v d) (r' : DT G w e) : eqV v w = eqF d e := by
  cases r <;> cases r' <;> rfl
theorem flats_ok {G : Hp} : ∀ {vs ds}, DTs G vs ds → ds.all flatD = true → vs.all flatV = true
  | _, _, .nil, _ => rfl
  | _, _, .cons h r, e => by
    rw [List.all_cons, Bool.and_eq_true] at e ⊢
    exact ⟨flat_ok h e.1, flats_ok r e.2⟩
theorem inD_ok {G : Hp} {v : V} {d : D} (r : DT G v d) : ∀ {vs ds}, DTs G vs ds → inV v vs = inD d ds
  | _, _, .nil => rfl
  | _, _, .cons h t => by
    show (eqV _ v || inV v _) = (eqF _ d || inD d _)
    rw [eqF_ok h r, inD_ok r t]
theorem opD_in {K : PySem.W.Frag} (neg : Bool) : OpD (rIn K neg) (fun d1 d2 d => ∃ l, items d2 = some l ∧ flatD d1 = true ∧ l.all flatD = true ∧ d = .bl (if neg then !inD d1 l else inD d1 l)) := by
  intro G H x y d1 d2 d s r1 r2 ⟨l, e1, h1, h2, e2⟩ k f
  subst e2
  cases r2 with
  | tup e z r =>
    cases e1
    refine ⟨_, _, rfl, .inr (.of (s _ _ e)), flat_ok r1 h1, flats_ok r h2, ?_⟩
    rw [inD_ok r1 r]
    exact f _ G H (.refl s) (.bl _)
  | lst e z r =>
    cases e1
    refine ⟨_, _, rfl, .inl (.of (s _ _ e)), flat_ok r1 h1, flats_ok r h2, ?_⟩
    rw [inD_ok r1 r]
    exact f _ G H (.refl s) (.bl _)
  | _ => cases e1
theorem pw_in (hm : behindInMarks .In b = false) (ha : Pw X a δ fun d1 => Pw X b δ fun d2 => ∃ l, items d2 = some l ∧ flatD d1 = true ∧ l.all flatD = true ∧ Q (.bl (inD d1 l))) : Pw X (.Compare a [.In] [b] pos) δ Q :=
  pw_cmp op_in_seq (opD_in false) hm (ha.imp fun _ h => h.imp fun _ ⟨l, h1, h2, h3, q⟩ => ⟨_, ⟨l, h1, h2, h3, rfl⟩, q⟩)
theorem pwt_in (hm : behindInMarks .In b = false) (ha : Pw X a δ fun d1 => Pw X b δ fun d2 => ∃ l, items d2 = some l ∧ flatD d1 = true ∧ l.all flatD = true ∧ QT (inD d1 l)) : PwT X (.Compare a [.In] [b] pos) δ QT :=
  pwt_cmp op_in_seq (opD_in false) hm (ha.imp fun _ h => h.imp fun _ ⟨l, h1, h2, h3, q⟩ => ⟨_, ⟨l, h1, h2, h3, rfl⟩, q⟩)
/-- a module's tuple of texts -/
def GT (K : PySem.W.Frag) (mg : Str → Option Value) (x : Str) (ss : List Str) : Prop := ∃ a, mg x = some (.ref a) ∧ ∀ H, SqT K H a (ss.map V.str)
theorem strs_dt {G : Hp} : ∀ ss : List Str, DTs G (ss.map V.str) (ss.map D.str)
  | [] => .nil
  | s :: r => .cons (.str s) (strs_dt r)
theorem pwt_inG {ss : List Str} {y : Str} (hT : GT X.K X.mg y ss) (hg : Gl X y) (ha : Pw X a δ fun d1 => flatD d1 = true ∧ QT (inD d1 (ss.map D.str))) (hd : (y == ("__debug__" : Str)) = false := by decide) (hm : behindInMarks .In (.Name y p2) = false := by rfl) : PwT X (.Compare a [.In] [.Name y p2] pos) δ QT :=
  ⟨fun G H σ o k f => by
    obtain ⟨a, h1, h2⟩ := hT
    refine sT_of (pt_cmpR op_in_seq pe_s (pe_glob (v := .ref a) hg h1 rfl hd) hm) (ha.run G H σ o _ fun v d G1 H1 g1 r1 ⟨fl, q⟩ => ?_)
    refine ⟨a, _, rfl, .inr (h2 _), flat_ok r1 fl, ?_, inD d (ss.map D.str), ?_, f _ G1 H1 g1 q⟩
    · rw [List.all_eq_true]; intro z hz; obtain ⟨u, _, rfl⟩ := List.mem_map.mp hz; rfl
    · show V.bl (inV v (ss.map V.str)) = _
      rw [inD_ok r1 (strs_dt ss)]⟩
theorem pw_inG {ss : List Str} {y : Str} (hT : GT X.K X.mg y ss) (hg : Gl X y) (ha : Pw X a δ fun d1 => flatD d1 = true ∧ Q (.bl (inD d1 (ss.map D.str)))) (hd : (y == ("__debug__" : Str)) = false := by decide) (hm : behindInMarks .In (.Name y p2) = false := by rfl) : Pw X (.Compare a [.In] [.Name y p2] pos) δ Q :=
  ⟨fun G H σ o k f => by
    obtain ⟨a, h1, h2⟩ := hT
    refine sE_of (pe_cmpR op_in_seq pe_s (pe_glob (v := .ref a) hg h1 rfl hd) hm) (ha.run G H σ o _ fun v d G1 H1 g1 r1 ⟨fl, q⟩ => ?_)
    refine ⟨a, _, rfl, .inr (h2 _), flat_ok r1 fl, ?_, ?_⟩
    · rw [List.all_eq_true]; intro z hz; obtain ⟨u, _, rfl⟩ := List.mem_map.mp hz; rfl
    · show k (.bl (inV v (ss.map V.str))) H1
      rw [inD_ok r1 (strs_dt ss)]
      exact f _ _ G1 H1 g1 (.bl _) q⟩
end
section
variable {X : Cx} {e a b c : Expr} {δ : List Cell} {Q : D → Prop} {QT : Bool → Prop} {pos p p2 : Pos} {x : Str}
theorem pw_chainLe (ha : Pw X a δ fun d1 => Pw X b δ fun d2 => ∃ i j, d1 = .int i ∧ d2 = .int j ∧ ∃ t, decide (i ≤ j) = t ∧ (t = true → Pw X c δ fun d3 => ∃ l, d3 = .int l ∧ Q (.bl (decide (j ≤ l)))) ∧ (t = false → Q (.bl false)))
    (hm : lastMarks [.LtE, .LtE] [b, c] = false := by with_unfolding_all rfl) : Pw X (.Compare a [.LtE, .LtE] [b, c] pos) δ Q :=
  ⟨fun G H σ o k f => sE_of (pe_chain op_le op_le pe_s pe_s pe_s hm) (ha.run G H σ o _ fun v1 d1 G1 H1 g1 r1 hb => hb.run G1 H1 σ (o.grow g1) _ fun v2 d2 G2 H2 g2 r2 ⟨i, j, e1, e2, t, et, h1, h2⟩ => by
    subst e1 e2; cases r1; cases r2
    refine ⟨i, j, rfl, rfl, decide (i ≤ j), rfl, ?_⟩
    rw [et]
    cases t with
    | true =>
      rw [if_pos rfl]
      refine (h1 rfl).run G2 H2 σ ((o.grow g1).grow g2) _ fun v3 d3 G3 H3 g3 r3 ⟨l, e3, q⟩ => ?_
      subst e3; cases r3
      exact ⟨j, l, rfl, rfl, f _ _ G3 H3 ((g1.trans g2).trans g3) (.bl _) q⟩
    | false =>
      rw [if_neg Bool.false_ne_true]
      exact f _ _ G2 H2 (g1.trans g2) (.bl _) (h2 rfl))⟩
theorem ix_get {N : List Str} {x : Str} {i : Nat} (h : N.findIdx? (fun y => y == x) = some i) : N[i]? = some x := by
  rw [List.findIdx?_eq_some_iff_getElem] at h
  obtain ⟨h1, h2, _⟩ := h
  rw [List.getElem?_eq_getElem h1]
  exact congrArg some (eq_of_beq h2)
/-- a name by its place -/
theorem pw_nm {i : Nat} {d : D} (hN : X.N.findIdx? (fun y => y == x) = some i) (hv : Vis X.env.scope x) (he : δ[i]? = some (.im d)) (q : Q d) (hd : (x == ("__debug__" : Str)) = false := by decide) (hcd : (x == ("__classdict__" : Str)) = false := by decide) : Pw X (.Name x pos) δ Q := pw_name (ix_get hN) hv he q hd hcd
theorem br_t {A B : Prop} {t : Bool} (h : t = true) (a : A) : (t = true → A) ∧ (t = false → B) := ⟨fun _ => a, fun e => (by rw [h] at e; cases e)⟩
theorem br_f {A B : Prop} {t : Bool} (h : t = false) (b : B) : (t = true → A) ∧ (t = false → B) := ⟨fun e => (by rw [h] at e; cases e), fun _ => b⟩
theorem rb_t {A B : Prop} {t : Bool} (h : t = true) (a : A) : (t = false → B) ∧ (t = true → A) := ⟨fun e => (by rw [h] at e; cases e), fun _ => a⟩
theorem rb_f {A B : Prop} {t : Bool} (h : t = false) (b : B) : (t = false → B) ∧ (t = true → A) := ⟨fun _ => b, fun e => (by rw [h] at e; cases e)⟩
end
end AL
namespace AL
open PySem PySem.Spec PyProof.Rows L2

inductive Sets (G : Hp) : List Nat → St → List Cell → St → List Cell → Prop
  | nil {σ δ} : Sets G [] σ δ σ δ
  | cons {i is v d σ δ σ' δ'} : DT G v d → Sets G is (σ.set i (some v)) (δ.set i (.im d)) σ' δ' → Sets G (i :: is) σ δ σ' δ'
theorem Sets.okb {G0 H0 G H : Hp} {is : List Nat} {σ σ' : St} {δ δ' : List Cell} (s : Sets G is σ δ σ' δ') : Okb G0 H0 G H σ δ → Okb G0 H0 G H σ' δ' := by
  induction s with
  | nil => exact id
  | cons h _ ih => intro o; exact ih (o.set _ h)
theorem Sets.ok {G H : Hp} {is : List Nat} {σ σ' : St} {δ δ' : List Cell} (s : Sets G is σ δ σ' δ') : Ok G H σ δ → Ok G H σ' δ' := by
  induction s with
  | nil => exact id
  | cons h _ ih => intro o; exact ih (o.set _ h)
theorem Sets.app {G : Hp} {is js : List Nat} {σ σ' σ'' : St} {δ δ' δ'' : List Cell} (s : Sets G is σ δ σ' δ') (t : Sets G js σ' δ' σ'' δ'') : Sets G (is ++ js) σ δ σ'' δ'' := by
  induction s with
  | nil => exact t
  | cons h _ ih => exact .cons h (ih t)
theorem set_wipe {σ : St} {x : Option V} : ∀ {vs : List Nat} {i : Nat}, i ∈ vs → wipe (σ.set i x) vs = wipe σ vs
  | [], _, h => by simp at h
  | j :: r, i, h => by
    show (wipe (σ.set i x) r).set j none = (wipe σ r).set j none
    by_cases hr : i ∈ r
    · rw [set_wipe hr]
    · have e : i = j := by rcases List.mem_cons.mp h with e | e; exact e; exact absurd e hr
      subst e
      apply List.ext_getElem?
      intro n
      by_cases hn : n = i
      · subst hn
        by_cases hl : n < σ.length
        · rw [List.getElem?_set_self (by rw [wipe_length]; simpa using hl), List.getElem?_set_self (by rw [wipe_length]; exact hl)]
        · rw [List.getElem?_eq_none (by simp [wipe_length]; omega), List.getElem?_eq_none (by simp [wipe_length]; omega)]
      · rw [List.getElem?_set_ne (Ne.symm hn), List.getElem?_set_ne (Ne.symm hn)]
        by_cases hm : n ∈ r
        · have key : ∀ (σ : St) (r : List Nat), n ∈ r → (wipe σ r)[n]? = if n < σ.length then some none else none := by
            intro σ r
            induction r with
            | nil => intro h; simp at h
            | cons k r ih =>
              intro h
              show ((wipe σ r).set k none)[n]? = _
              by_cases hk : n = k
              · subst hk
                by_cases hl : n < σ.length
                · rw [List.getElem?_set_self (by rw [wipe_length]; exact hl), if_pos hl]
                · rw [List.getElem?_eq_none (by simp [wipe_length]; omega), if_neg hl]
              · rw [List.getElem?_set_ne (Ne.symm hk)]
                exact ih ((List.mem_cons.mp h).resolve_left hk)
          rw [key _ _ hm, key _ _ hm]
          simp
        · rw [wipe_out hm, wipe_out hm, List.getElem?_set_ne (Ne.symm hn)]
theorem wipe_twice {σ : St} : ∀ {vs ws : List Nat}, (∀ i ∈ vs, i ∈ ws) → wipe (wipe σ vs) ws = wipe σ ws
  | [], ws, _ => rfl
  | j :: r, ws, h => by
    show wipe ((wipe σ r).set j none) ws = _
    rw [set_wipe (h j (by simp)), wipe_twice fun i hi => h i (by simp [hi])]
theorem Sets.wipe {G : Hp} {is : List Nat} {σ σ' : St} {δ δ' : List Cell} (s : Sets G is σ δ σ' δ') {vs : List Nat} : (∀ i ∈ is, i ∈ vs) → L2.wipe σ' vs = L2.wipe σ vs := by
  induction s with
  | nil => intro _; rfl
  | cons h _ ih => intro hv; rw [ih fun i hi => hv i (by simp [hi]), set_wipe (hv _ (by simp))]

structure PwG (X : Cx) (tg : Expr) (d : D) (δ : List Cell) (is : List Nat) (Q : List Cell → Prop) : Prop where
  run : ∀ (G H : Hp) (σ : St) (v : V), Same G H → DT G v d → ∀ k : St → Hp → Prop, (∀ σ' δ', Sets G is σ δ σ' δ' → Q δ' → k σ' H) → sG X tg v σ H k
structure PwGs (X : Cx) (ts : List Expr) (ds : List D) (δ : List Cell) (is : List Nat) (Q : List Cell → Prop) : Prop where
  run : ∀ (G H : Hp) (σ : St) (vs : List V), Same G H → DTs G vs ds → ∀ k : St → Hp → Prop, (∀ σ' δ', Sets G is σ δ σ' δ' → Q δ' → k σ' H) → sGs X ts vs σ H k
section
variable {X : Cx} {δ : List Cell} {pos : Pos} {x : Str} {d : D} {QC : List Cell → Prop}
theorem pwg_name {i : Nat} (hN : X.N.Nodup) (hi : X.N[i]? = some x) (hx : Loc X.env.scope x) (q : QC (δ.set i (.im d))) (hf : X.fn x = true ∨ X.env.scope.names.lookup x = some .local := by first | exact .inl rfl | exact .inr rfl) : PwG X (.Name x pos) d δ [i] QC :=
  ⟨fun G H σ v s r k f => sG_of (pg_name hN hi hx hf) (f _ _ (.cons r .nil) q)⟩
theorem pwgs_nil (q : QC δ) : PwGs X [] [] δ [] QC := ⟨fun G H σ vs s r k f => sGs_of pgs_nil (by cases r; exact ⟨rfl, f _ _ .nil q⟩)⟩
theorem pwgs_cons {e : Expr} {es : List Expr} {d : D} {ds : List D} {is js : List Nat} (h : PwG X e d δ is fun δ1 => PwGs X es ds δ1 js QC) (hs : (assignEach (e :: es) X.env).map (·.2) = assign e X.env :: (assignEach es X.env).map (·.2) := by rfl) : PwGs X (e :: es) (d :: ds) δ (is ++ js) QC :=
  ⟨fun G H σ vs s r k f => sGs_of (pgs_cons pg_s pgs_s hs) (by
    cases r with
    | cons r1 r2 => exact ⟨_, _, rfl, h.run G H σ _ s r1 _ fun σ1 δ1 s1 h2 => h2.run G H σ1 _ s r2 k fun σ2 δ2 s2 q => f σ2 δ2 (s1.app s2) q⟩)⟩
theorem pwg_tup {es : List Expr} {k0 n : Nat} {ds : List D} {is : List Nat} (hc : X.calm = true) (hl : ds.length = n) (h : PwGs X es ds δ is QC) (hn : (assignEach es X.env).length = n := by rfl) (hst : (assignEach es X.env).findIdx? (·.1) = none := by rfl) : PwG X (.Tuple es k0 pos) (.tup ds) δ is QC :=
  ⟨fun G H σ v s r k f => sG_of (pg_tup hc pgs_s hn hst) (by
    cases r with
    | tup e z r => exact ⟨_, _, rfl, .of (s _ _ e), by rw [r.length, hl], h.run G H σ _ s r k f⟩)⟩
theorem PwG.imp {e : Expr} {is : List Nat} {Q Q' : List Cell → Prop} (h : PwG X e d δ is Q) (i : ∀ x, Q x → Q' x) : PwG X e d δ is Q' := ⟨fun G H σ v s r k f => h.run G H σ v s r k fun σ' δ' s' q => f σ' δ' s' (i _ q)⟩
end

structure Wk (J : It) (ds : List D) (G : Hp) : Prop where
  len : ds.length ≤ sizeLine
  go : ∀ i H, Same G H → i < ds.length → J.go i H
  stop : ∀ H, Same G H → J.stop ds.length H
  yld : ∀ i H x H', Same G H → i < ds.length → J.yld i H x H' → ∀ G1, Same G1 H → Same G G1 → ∃ G2 d, ds[i]? = some d ∧ Gr G1 H G2 H' ∧ DT G2 x d
structure PwI (X : Cx) (tg iter : Expr) (δ : List Cell) (Q : List D → Prop) : Prop where
  run : ∀ (G H : Hp) (σ : St), Ok G H σ δ → ∀ R : It → Hp → Prop, (∀ J G' H' ds, Gr G H G' H' → Wk J ds G' → Q ds → R J H') → sI X tg iter σ H R
section
variable {X : Cx} {tg e a b : Expr} {δ : List Cell} {Q : List D → Prop} {p pos : Pos}
theorem wk_list {K : PySem.W.Frag} {G : Hp} {a : Addr} {vs : List V} {ds : List D} (e : G a = some (.lst vs)) (z : ds.length ≤ sizeLine) (r : DTs G vs ds) : Wk (Itl K a) ds G where
  len := z
  go := fun i H s h => by
    obtain ⟨v, h1, _⟩ := r.get (List.getElem?_eq_getElem h)
    exact ⟨vs, v, .of (s _ _ e), h1⟩
  stop := fun H s => ⟨vs, .of (s _ _ e), by rw [r.length]; exact Nat.le_refl _⟩
  yld := fun i H x H' s h y G1 s1 g1 => by
    obtain ⟨rfl, y⟩ := y
    have h1 := y vs (.of (s _ _ e))
    obtain ⟨d, h2, h3⟩ := r.getV h1
    exact ⟨G1, d, h2, .refl s1, h3.mo (.of g1)⟩
theorem wk_tup {K : PySem.W.Frag} {G : Hp} {a : Addr} {vs : List V} {ds : List D} (e : G a = some (.tup vs)) (z : ds.length ≤ sizeLine) (r : DTs G vs ds) : Wk (Itt K a) ds G where
  len := z
  go := fun i H s h => by
    obtain ⟨v, h1, _⟩ := r.get (List.getElem?_eq_getElem h)
    exact ⟨vs, v, .of (s _ _ e), h1⟩
  stop := fun H s => ⟨vs, .of (s _ _ e), by rw [r.length]; exact Nat.le_refl _⟩
  yld := fun i H x H' s h y G1 s1 g1 => by
    obtain ⟨rfl, y⟩ := y
    have h1 := y vs (.of (s _ _ e))
    obtain ⟨d, h2, h3⟩ := r.getV h1
    exact ⟨G1, d, h2, .refl s1, h3.mo (.of g1)⟩
/-- lo, lo + 1, .. -/
def rgD (lo : Int) (n : Nat) : List D := (List.range n).map fun (i : Nat) => D.int (lo + ((i : Nat) : Int))
theorem rgD_len (lo : Int) (n : Nat) : (rgD lo n).length = n := by simp [rgD]
theorem rgD_get {lo : Int} {n i : Nat} (h : i < n) : (rgD lo n)[i]? = some (D.int (lo + (i : Int))) := by simp [rgD, h]
theorem wk_range {G : Hp} {lo : Int} {n : Nat} (h : n ≤ sizeLine) : Wk (Itr lo n) (rgD lo n) G where
  len := by rw [rgD_len]; exact h
  go := fun i H s h => by rw [rgD_len] at h; exact h
  stop := fun H s => by rw [rgD_len]; exact Nat.le_refl n
  yld := fun i H x H' s h y G1 s1 g1 => by
    obtain ⟨rfl, rfl⟩ := y
    rw [rgD_len] at h
    exact ⟨G1, _, rgD_get h, .refl s1, .int _⟩
/-- (i, x) -/
def enD (ds : List D) : List D := ds.mapIdx fun (i : Nat) d => D.tup [.int ((i : Nat) : Int), d]
theorem enD_len (ds : List D) : (enD ds).length = ds.length := by simp [enD]
theorem enD_get {ds : List D} {i : Nat} {d : D} (h : ds[i]? = some d) : (enD ds)[i]? = some (D.tup [.int (i : Int), d]) := by simp [enD, h]
theorem wk_enum {K : PySem.W.Frag} {G : Hp} {a : Addr} {vs : List V} {ds : List D} (e : G a = some (.lst vs)) (z : ds.length ≤ sizeLine) (r : DTs G vs ds) : Wk (Ite K a) (enD ds) G where
  len := by rw [enD_len]; exact z
  go := fun i H s h => by
    rw [enD_len] at h
    obtain ⟨v, h1, _⟩ := r.get (List.getElem?_eq_getElem h)
    exact ⟨vs, v, .of (s _ _ e), h1⟩
  stop := fun H s => ⟨vs, .of (s _ _ e), by rw [enD_len, r.length]; exact Nat.le_refl _⟩
  yld := fun i H x H' s h y G1 s1 g1 => by
    obtain ⟨T, x1, rfl, nT, rfl, y⟩ := y
    have h1 := y vs (.of (s _ _ e))
    obtain ⟨d, h2, h3⟩ := r.getV h1
    have g := Gr.new (o := .tup [.int (i : Nat), x1]) s1 nT
    exact ⟨_, _, enD_get h2, g, .tup upd_same (le_line (show 2 ≤ 100000 by decide)) (.cons (.int _) (.cons (h3.mo (.of (g1.trans g.g))) .nil))⟩
theorem pwi_list (h : Pw X e δ fun d => ∃ ds, d = .lst ds ∧ Q ds) : PwI X tg e δ Q :=
  ⟨fun G H σ o R f => sI_of (pi_list pe_s) (h.run G H σ o _ fun v d G1 H1 g1 r1 ⟨ds, e1, q⟩ => by
    subst e1
    cases r1 with
    | lst e z r => exact ⟨_, rfl, ⟨_, .of (g1.sg _ _ e)⟩, f _ G1 H1 ds g1 (wk_list e z r) q⟩)⟩
theorem pwi_tup (h : Pw X e δ fun d => ∃ ds, d = .tup ds ∧ Q ds) : PwI X tg e δ Q :=
  ⟨fun G H σ o R f => sI_of (pi_tup pe_s) (h.run G H σ o _ fun v d G1 H1 g1 r1 ⟨ds, e1, q⟩ => by
    subst e1
    cases r1 with
    | tup e z r => exact ⟨_, rfl, ⟨_, .of (g1.sg _ _ e)⟩, f _ G1 H1 ds g1 (wk_tup e z r) q⟩)⟩
theorem pwi_range1 (hm : X.mg "range" = none) (h : PwA X [a] δ fun ds => ∃ j : Int, ds = [.int j] ∧ j ≤ 100000 ∧ -100000 ≤ j ∧ Q (rgD 0 j.toNat)) (hg : Gl X "range" := by rfl) (hs : starEach [a] X.env = [(false, eval a X.env)] := by rfl) : PwI X tg (.Call (.Name "range" p) [a] [] pos) δ Q :=
  ⟨fun G H σ o R f => sI_of (pi_range1 hg hm pa_s hs) (h.run G H σ o _ fun vs ds G1 H1 g1 r1 ⟨j, e, h1, h2, q⟩ => by
    subst e
    obtain ⟨v, rfl, h⟩ := r1.one
    cases h
    exact ⟨j, rfl, by omega, by omega, f _ G1 H1 _ g1 (wk_range (le_line (by omega))) q⟩)⟩
theorem pwi_enum {elts : List Expr} {kk : Nat} {tpos : Pos} (hm : X.mg "enumerate" = none) (h : PwA X [e] δ fun ds => ∃ l, ds = [.lst l] ∧ Q (enD l)) (hg : Gl X "enumerate" := by rfl) (hs : starEach [e] X.env = [(false, eval e X.env)] := by rfl) : PwI X (.Tuple elts kk tpos) (.Call (.Name "enumerate" p) [e] [] pos) δ Q :=
  ⟨fun G H σ o R f => sI_of (pi_enum hg hm pa_s hs) (h.run G H σ o _ fun vs ds G1 H1 g1 r1 ⟨l, e, q⟩ => by
    subst e
    obtain ⟨v, rfl, h⟩ := r1.one
    cases h with
    | lst e z r => exact ⟨_, _, rfl, .of (g1.sg _ _ e), f _ G1 H1 _ g1 (wk_enum e z r) q⟩)⟩
/-- a module's tuple of ints, walked -/
theorem dts_len_ints (is : List Int) : (is.map D.int).length = is.length := by simp
def GI (K : PySem.W.Frag) (mg : Str → Option Value) (x : Str) (is : List Int) : Prop := ∃ a, mg x = some (.ref a) ∧ ∀ H, SqT K H a (is.map V.int)
end

def sTs (X : Cx) (ifs : List Expr) : TT := fun σ H Q => ∃ t, PTs X ifs t ∧ t σ H Q
theorem pts_s {X : Cx} {ifs : List Expr} : PTs X ifs (sTs X ifs) := ⟨fun pins s σ H Q I h => by
  obtain ⟨t, h1, h2⟩ := h
  exact h1.run pins s σ H Q I h2⟩
structure PwTs (X : Cx) (ifs : List Expr) (δ : List Cell) (Q : Bool → Prop) : Prop where
  run : ∀ (G H : Hp) (σ : St), Ok G H σ δ → ∀ k : Bool → Hp → Prop, (∀ b G' H', Gr G H G' H' → Q b → k b H') → sTs X ifs σ H k
theorem pwts_nil {X : Cx} {δ : List Cell} {Q : Bool → Prop} (q : Q true) : PwTs X [] δ Q := ⟨fun G H σ o k f => ⟨tYes, pts_nil, f true G H (.refl o.sg) q⟩⟩
theorem pwts_one {X : Cx} {c : Expr} {δ : List Cell} {Q : Bool → Prop} (h : PwT X c δ Q) : PwTs X [c] δ Q := ⟨fun G H σ o k f => ⟨sT X c, pts_one pt_s, h.run G H σ o k f⟩⟩
theorem Gr.take {G H G2 H2 : Hp} {p : Addr} {o : HO} (g : Gr G H G2 H2) (hp : H p = none) (e : H2 p = some o) (n : G2 p = none) : Gr G H (upd G2 p o) H2 where
  sg := fun b x h => by
    by_cases hb : b = p
    · subst hb; rw [upd_same] at h; rw [e]; exact h
    · rw [upd_ne hb] at h; exact g.sg b x h
  g := g.g.trans (same_new n)
  h := g.h
  nw := fun b u h0 n0 => by rw [upd_ne (fun z => by subst z; rw [hp] at h0; cases h0)]; exact g.nw b u h0 n0
theorem Gr.put {G H G2 H2 : Hp} {p : Addr} {o : HO} (g : Gr G H G2 H2) (hp : H p = none) (n : G2 p = none) : Gr G H G2 (upd H2 p o) where
  sg := fun b x h => by rw [upd_ne (ne_of_none h n)]; exact g.sg b x h
  g := g.g
  h := fun b x h => by rw [upd_ne (ne_of_none h hp)]; exact g.h b x h
  nw := g.nw

abbrev BlkAll (X : Cx) (scope : Scope) (P : Cx → Prop) : Prop := ∀ (s : Shared) (H : Hp) (C : Addr) (cl : List (Str × Addr)) (fp : List Addr), P (X.blk s H scope (compEnvC scope cl C X.env) fp)
section
variable {X : Cx} {elt tg iter : Expr} {ifs : List Expr} {scope : Scope} {pos : Pos} {δ : List Cell} {Q : D → Prop}
theorem filterMap_snoc {α β : Type} {f : α → Option β} {l : List α} {i : Nat} {x : α} (h : l[i]? = some x) : (l.take (i + 1)).filterMap f = (l.take i).filterMap f ++ (f x).toList := by
  rw [List.take_add_one, h, List.filterMap_append]
  cases hf : f x with
  | none => simp [hf]
  | some y => simp [hf]
/-- a semantic expression over data -/
structure PwX (t : TE) (δ : List Cell) (Q : D → Prop) : Prop where
  run : ∀ (G H : Hp) (σ : St), Ok G H σ δ → ∀ k : VK, (∀ v d G' H', Gr G H G' H' → DT G' v d → Q d → k v H') → t σ H k
theorem pwx_pe {X : Cx} {e : Expr} {t : TE} {δ : List Cell} {Q : D → Prop} (h : PE X e t) (q : PwX t δ Q) : Pw X e δ Q := ⟨fun G H σ o k f => sE_of h (q.run G H σ o k f)⟩
def lcT (X : Cx) (elt tg iter : Expr) (ifs : List Expr) (scope : Scope) (own : List (Str × Nat)) : TE :=
  tLc (sI X tg iter) (fun v σ H K => ∀ s0 H0 C cl fp, sG (X.blk s0 H0 scope (compEnvC scope cl C X.env) fp) tg v σ H K)
    (fun σ H K => ∀ s0 H0 C cl fp, sTs (X.blk s0 H0 scope (compEnvC scope cl C X.env) fp) ifs σ H K) (fun σ H K => ∀ s0 H0 C cl fp, sE (X.blk s0 H0 scope (compEnvC scope cl C X.env) fp) elt σ H K) (own.map (·.2))
theorem pe_lcT {own : List (Str × Nat)} (hc : X.calm = true) (hN : X.N.Nodup) (ok : BlkOk X.N X.env.scope scope own) (hs : ∀ x, foldedSetIterable iter X.env x = pure x) : PE X (.ListComp elt [⟨tg, iter, ifs, 0⟩] scope pos) (lcT X elt tg iter ifs scope own) :=
  pe_lc (own := own) hc hN pi_s ok
      (fun s0 H0 C cl fp => ⟨fun pins s _ _ _ u _ I r h => h s0 H0 C cl fp pins s u I r⟩) (fun s0 H0 C cl fp => ⟨fun pins s σ H Q I h => pts_s.run pins s σ H Q I (h s0 H0 C cl fp)⟩) (fun s0 H0 C cl fp => ⟨fun pins s _ _ _ I h => h s0 H0 C cl fp pins s I⟩) hs
theorem ps_lcT {own : List (Str × Nat)} {i : Nat} {y : Str} {py spos : Pos} (hc : X.calm = true) (hN : X.N.Nodup) (ok : BlkOk X.N X.env.scope scope own) (hy : X.N[i]? = some y) (hyl : X.env.scope.names.lookup y = some .local)
    (hsw : swapsWith (.ListComp elt [⟨tg, iter, ifs, 0⟩] scope pos) (some (.Name y py)) spos.line X.env = pure true) (hs : ∀ x, foldedSetIterable iter X.env x = pure x) : PS X (.Assign [.Name y py] (.ListComp elt [⟨tg, iter, ifs, 0⟩] scope pos) spos) (tAsg (lcT X elt tg iter ifs scope own) (gName i)) :=
  ps_setLc (own := own) hc hN hy hyl hsw pi_s ok
      (fun s0 H0 C cl fp => ⟨fun pins s _ _ _ u _ I r h => h s0 H0 C cl fp pins s u I r⟩) (fun s0 H0 C cl fp => ⟨fun pins s σ H Q I h => pts_s.run pins s σ H Q I (h s0 H0 C cl fp)⟩) (fun s0 H0 C cl fp => ⟨fun pins s _ _ _ I h => h s0 H0 C cl fp pins s I⟩) hs
/-- [elt for tg in iter if ..]: xs told by enc; f: what the block makes of an item (none: left out) -/
theorem lcx {own : List (Str × Nat)}
    (hi : PwI X tg iter δ fun ds => ∃ (α : Type) (xs : List α) (enc : α → D) (f : α → Option D) (is : List Nat), ds = xs.map enc ∧ (∀ i ∈ is, i ∈ own.map (·.2)) ∧
      (∀ x ∈ xs, BlkAll X scope fun Y => PwG Y tg (enc x) (wipeC δ (own.map (·.2))) is fun δ2 => BlkAll X scope fun Y1 => PwTs Y1 ifs δ2 fun b => (b = false → f x = none) ∧ (b = true → BlkAll X scope fun Y2 => Pw Y2 elt δ2 fun d => f x = some d)) ∧ Q (.lst (xs.filterMap f))) : PwX (lcT X elt tg iter ifs scope own) δ Q :=
  ⟨fun G H σ o k kf => by
    unfold lcT tLc
    refine hi.run G H σ o _ fun J G1 H1 ds g1 wk hq D hD => ?_
    obtain ⟨α, xs, enc, f, is, rfl, his, hel, q⟩ := hq
    have o1 := o.grow g1
    have hlen : (xs.map enc).length = xs.length := List.length_map ..
    -- the state at turn i
    refine ⟨fun i m H2 => m = xs.length - i ∧ i ≤ xs.length ∧ ∃ G2 acc, Gr G1 H1 G2 H2 ∧ G2 D = none ∧ H2 D = some (.lst acc) ∧ DTs G2 acc ((xs.take i).filterMap f), ⟨xs.length, by simp, Nat.zero_le _, G1, [], .side g1.sg hD, g1.sg.free hD, upd_same, .nil⟩, ?_⟩
    rintro i m H2 ⟨rfl, hi2, G2, acc, g2, nD, eD, r2⟩
    by_cases hlt : i < xs.length
    · refine .inr ⟨wk.go i H2 (g2.g.trans g2.sg) (by rw [hlen]; exact hlt), fun H3 => i + 1 ≤ xs.length ∧ ∃ G2 acc, Gr G1 H1 G2 H3 ∧ G2 D = none ∧ H3 D = some (.lst acc) ∧ DTs G2 acc ((xs.take (i + 1)).filterMap f), fun H3 ⟨h1, h2⟩ => ⟨xs.length - (i + 1), by omega, rfl, h1, h2⟩, fun x H3 y => ?_⟩
      have o2 : Ok G2 H2 σ δ := o1.grow g2
      obtain ⟨G3, d, hd, g3, rx⟩ := wk.yld i H2 x H3 (g2.g.trans g2.sg) (by rw [hlen]; exact hlt) y G2 g2.sg g2.g
      rw [List.getElem?_map, List.getElem?_eq_getElem hlt] at hd
      cases hd
      have nD3 : G3 D = none := (g3.nw D _ eD rfl).trans nD
      intro s0 H0 C cl fp
      refine (hel xs[i] (List.getElem_mem hlt) s0 H0 C cl fp).run G3 H3 _ x g3.sg rx _ fun σ4 δ4 s4 h4 => ?_
      have w5 : wipe (wipe σ (own.map (·.2))) (own.map (·.2)) = wipe σ (own.map (·.2)) := wipe_twice fun _ h => h
      refine ⟨by rw [s4.wipe his, w5], fun s1 H1' C1 cl1 fp1 => ?_⟩
      have o4 : Ok G3 H3 σ4 δ4 := s4.ok ((o2.grow g3).wiped _)
      -- the element, at any block's context
      refine (h4 s1 H1' C1 cl1 fp1).run G3 H3 σ4 o4 _ fun b G5 H5 g5 hb => ?_
      have ht := filterMap_snoc (f := f) (List.getElem?_eq_getElem hlt)
      have g35 : Gr G1 H1 G5 H5 := g2.trans (g3.trans g5)
      have eD5 : H5 D = some (.lst acc) := g5.h _ _ (g3.h _ _ eD)
      have nD5 : G5 D = none := (g5.nw D _ (g3.h _ _ eD) rfl).trans nD3
      cases b with
      | false =>
        rw [if_neg Bool.false_ne_true]
        refine ⟨hlt, G5, acc, g35, nD5, eD5, ?_⟩
        rw [ht, hb.1 rfl]
        simpa using (g3.trans g5).dts r2
      | true =>
        rw [if_pos rfl]
        intro s2 H2' C2 cl2 fp2
        refine (hb.2 rfl s2 H2' C2 cl2 fp2).run G5 H5 σ4 (o4.grow g5) _ fun v d G6 H6 g6 rv hf => ?_
        have g26 := g3.trans (g5.trans g6)
        have nD6 : G6 D = none := (g6.nw D _ eD5 rfl).trans nD5
        refine ⟨acc, g6.h _ _ eD5, ?_, hlt, G6, acc ++ [v], (g2.trans g26).put hD nD6, nD6, upd_same, ?_⟩
        · rw [r2.length]
          have a1 : ((xs.take i).filterMap f).length ≤ (xs.take i).length := List.length_filterMap_le _ _
          have a2 := wk.len
          rw [hlen] at a2
          rw [List.length_take] at a1
          omega
        · rw [ht, hf]
          exact (g26.dts r2).app (.cons rv .nil)
    · have e : i = xs.length := by omega
      subst e
      refine .inl ⟨by have := wk.stop H2 (g2.g.trans g2.sg); rwa [hlen] at this, ?_⟩
      rw [List.take_length] at r2
      have z : (xs.filterMap f).length ≤ sizeLine := Nat.le_trans (List.length_filterMap_le _ _) (by rw [← hlen]; exact wk.len)
      exact kf (.ref D) _ _ H2 (g1.trans (g2.take hD eD nD)) (.lst upd_same z (r2.mo (.of (same_new nD)))) q⟩
theorem pw_lc {own : List (Str × Nat)} (hc : X.calm = true) (hN : X.N.Nodup) (ok : BlkOk X.N X.env.scope scope own)
    (hi : PwI X tg iter δ fun ds => ∃ (α : Type) (xs : List α) (enc : α → D) (f : α → Option D) (is : List Nat), ds = xs.map enc ∧ (∀ i ∈ is, i ∈ own.map (·.2)) ∧
      (∀ x ∈ xs, BlkAll X scope fun Y => PwG Y tg (enc x) (wipeC δ (own.map (·.2))) is fun δ2 => BlkAll X scope fun Y1 => PwTs Y1 ifs δ2 fun b => (b = false → f x = none) ∧ (b = true → BlkAll X scope fun Y2 => Pw Y2 elt δ2 fun d => f x = some d)) ∧ Q (.lst (xs.filterMap f)))
    (hs : ∀ x, foldedSetIterable iter X.env x = pure x := by intro _; rfl) : Pw X (.ListComp elt [⟨tg, iter, ifs, 0⟩] scope pos) δ Q := pwx_pe (pe_lcT hc hN ok hs) (lcx hi)
/-- without tests -/
theorem lcxM {own : List (Str × Nat)}
    (hi : PwI X tg iter δ fun ds => ∃ (α : Type) (xs : List α) (enc : α → D) (f : α → D) (is : List Nat), ds = xs.map enc ∧ (∀ i ∈ is, i ∈ own.map (·.2)) ∧
      (∀ x ∈ xs, BlkAll X scope fun Y => PwG Y tg (enc x) (wipeC δ (own.map (·.2))) is fun δ2 => BlkAll X scope fun Y2 => Pw Y2 elt δ2 fun d => f x = d) ∧ Q (.lst (xs.map f))) : PwX (lcT X elt tg iter [] scope own) δ Q :=
  lcx ⟨fun G H σ o R k => hi.run G H σ o R fun J G' H' ds g w ⟨α, xs, enc, f, is, e, h1, h2, q⟩ => k J G' H' ds g w
    ⟨α, xs, enc, fun x => some (f x), is, e, h1, fun x hx s0 H0 C cl fp => (h2 x hx s0 H0 C cl fp).imp fun δ2 h s1 H1 C1 cl1 fp1 => pwts_nil ⟨(fun z => nomatch z), fun _ s2 H2 C2 cl2 fp2 => (h s2 H2 C2 cl2 fp2).imp fun d e => congrArg some e⟩, by rw [List.filterMap_eq_map' (f := f)]; exact q⟩⟩
theorem pw_lcM {own : List (Str × Nat)} (hc : X.calm = true) (hN : X.N.Nodup) (ok : BlkOk X.N X.env.scope scope own)
    (hi : PwI X tg iter δ fun ds => ∃ (α : Type) (xs : List α) (enc : α → D) (f : α → D) (is : List Nat), ds = xs.map enc ∧ (∀ i ∈ is, i ∈ own.map (·.2)) ∧
      (∀ x ∈ xs, BlkAll X scope fun Y => PwG Y tg (enc x) (wipeC δ (own.map (·.2))) is fun δ2 => BlkAll X scope fun Y2 => Pw Y2 elt δ2 fun d => f x = d) ∧ Q (.lst (xs.map f)))
    (hs : ∀ x, foldedSetIterable iter X.env x = pure x := by intro _; rfl) : Pw X (.ListComp elt [⟨tg, iter, [], 0⟩] scope pos) δ Q := pwx_pe (pe_lcT hc hN ok hs) (lcxM hi)
end

theorem Okb.rebase {G0 H0 G H : Hp} {σ : St} {δ : List Cell} (o : Okb G0 H0 G H σ δ) : ∃ Hb, Okb G Hb G H σ δ ∧ ∀ G' H' σ' δ', Okb G Hb G' H' σ' δ' → Okb G0 H0 G' H' σ' δ' ∧ Same G G' := by
  obtain ⟨f, s, nd, fr⟩ := id o.sl
  refine ⟨fun b => if b ∈ f then none else H b, ⟨⟨o.gr.sg, Same.refl _, fun b x h => ?_, fun _ _ _ _ => rfl⟩, f, s, nd, fun a ha => ⟨(fr a ha).1, if_pos ha⟩⟩, fun G' H' σ' δ' o' => ⟨⟨⟨o'.gr.sg, o.gr.g.trans o'.gr.g, fun b x h => ?_, fun b x h n => ?_⟩, ?_⟩, o'.gr.g⟩⟩
  · by_cases hb : b ∈ f
    · rw [if_pos hb] at h; cases h
    · rw [if_neg hb] at h; exact h
  · have hb : b ∉ f := fun z => by rw [(fr b z).2] at h; cases h
    exact o'.gr.h b x (by rw [if_neg hb]; exact o.gr.h b x h)
  · have hb : b ∉ f := fun z => by rw [(fr b z).2] at h; cases h
    exact (o'.gr.nw b x (by rw [if_neg hb]; exact o.gr.h b x h) n).trans (o.gr.nw b x h n)
  · obtain ⟨f', s', nd', fr'⟩ := o'.sl
    refine ⟨f', s', nd', fun a ha => ⟨(fr' a ha).1, ?_⟩⟩
    by_cases hb : a ∈ f
    · exact (fr a hb).2
    · have z := (fr' a ha).2
      rw [if_neg hb] at z
      exact o.gr.h.free z
structure Sd (X : Cx) (st : List Stmt) (δ : List Cell) (N : List Cell → Prop) (R : D → List Cell → Prop) : Prop where
  run : ∀ (G0 H0 G H : Hp) (σ : St), Okb G0 H0 G H σ δ → ∀ E : Ends, (∀ G' H' σ' δ', Okb G0 H0 G' H' σ' δ' → N δ' → E.nx σ' H') →
    (∀ v d G' H' σ' δ', Okb G0 H0 G' H' σ' δ' → DT G' v d → R d δ' → E.rt v H') → sSs X st E σ H
section
variable {X : Cx} {e a b c tg iter : Expr} {es : List Expr} {st : Stmt} {rest body : List Stmt} {δ : List Cell} {N : List Cell → Prop} {R : D → List Cell → Prop} {pos p p2 : Pos} {x : Str}
theorem Sd.imp {N' : List Cell → Prop} {R' : D → List Cell → Prop} (h : Sd X rest δ N R) (i : ∀ d, N d → N' d) (j : ∀ d c, R d c → R' d c) : Sd X rest δ N' R' :=
  ⟨fun G0 H0 G H σ o E f g => h.run G0 H0 G H σ o E (fun G' H' σ' δ' o n => f G' H' σ' δ' o (i _ n)) fun v d G' H' σ' δ' o r q => g v d G' H' σ' δ' o r (j _ _ q)⟩
theorem sd_nil (q : N δ) : Sd X [] δ N R := ⟨fun G0 H0 G H σ o E f g => sSs_of pss_nil (f G H σ δ o q)⟩
/-- a statement by its rule, at one state -/
theorem sd_step {t : TS} (h : PS X st t) (hd : ∀ (G0 H0 G H : Hp) (σ : St), Okb G0 H0 G H σ δ → ∀ E : Ends, (∀ G' H' σ' δ', Okb G0 H0 G' H' σ' δ' → Sd X rest δ' N R → E.nx σ' H') →
    (∀ v d G' H' σ' δ', Okb G0 H0 G' H' σ' δ' → DT G' v d → R d δ' → E.rt v H') → t E σ H) : Sd X (st :: rest) δ N R :=
  ⟨fun G0 H0 G H σ o E f g => sSs_of (pss_cons h pss_s) (hd G0 H0 G H σ o { E with nx := sSs X rest E } (fun G' H' σ' δ' o' h' => h'.run G0 H0 G' H' σ' o' E f g) g)⟩
theorem sd_set {i : Nat} (hN : X.N.Nodup) (hi : X.N[i]? = some x) (hx : Loc X.env.scope x) (he : Pw X e δ fun d => Sd X rest (δ.set i (.im d)) N R) (hs : swapsWith e (some (.Name x p)) pos.line X.env = pure false := by rfl)
    (hf : X.fn x = true ∨ X.env.scope.names.lookup x = some .local := by first | exact .inl rfl | exact .inr rfl) : Sd X (.Assign [.Name x p] e pos :: rest) δ N R :=
  sd_step (ps_set hN hi hx pe_s hs hf) fun G0 H0 G H σ o E f g => he.run G H σ o.ok _ fun v d G' H' g' r q => f G' H' _ _ ((o.grow g').set i r) q
/-- a store by its semantic expression -/
theorem sd_setX {t : TE} {i : Nat} (hps : PS X st (tAsg t (gName i))) (h : PwX t δ fun d => Sd X rest (δ.set i (.im d)) N R) : Sd X (st :: rest) δ N R :=
  sd_step hps fun G0 H0 G H σ o E f g => h.run G H σ o.ok _ fun v d G' H' g' r q => f G' H' _ _ ((o.grow g').set i r) q
/-- x = [elt for ..], the store within the block -/
theorem sd_setLc {elt : Expr} {ifs : List Expr} {scope : Scope} {own : List (Str × Nat)} {i : Nat} (hc : X.calm = true) (hN : X.N.Nodup) (ok : BlkOk X.N X.env.scope scope own) (hy : X.N[i]? = some x) (h : PwX (lcT X elt tg iter ifs scope own) δ fun d => Sd X rest (δ.set i (.im d)) N R)
    (hyl : X.env.scope.names.lookup x = some .local := by rfl) (hsw : swapsWith (.ListComp elt [⟨tg, iter, ifs, 0⟩] scope p2) (some (.Name x p)) pos.line X.env = pure true := by rfl) (hs : ∀ x, foldedSetIterable iter X.env x = pure x := by intro _; rfl) :
    Sd X (.Assign [.Name x p] (.ListComp elt [⟨tg, iter, ifs, 0⟩] scope p2) pos :: rest) δ N R := sd_setX (ps_lcT hc hN ok hy hyl hsw hs) h
/-- a target of another form (a tuple of names) -/
theorem sd_asg {is : List Nat} (he : Pw X e δ fun d => PwG X tg d δ is fun δ' => Sd X rest δ' N R) (hs : swapsWithSole [tg] e pos.line X.env = pure false := by rfl) (hw : swappedStores [tg] e X.env = pure none := by rfl)
    (h1 : (assignEach [tg] X.env).map (·.2) = [assign tg X.env] := by rfl) : Sd X (.Assign [tg] e pos :: rest) δ N R :=
  sd_step (ps_asg pe_s pg_s hs hw h1) fun G0 H0 G H σ o E f g => he.run G H σ o.ok _ fun v d G' H' g' r q => q.run G' H' σ v g'.sg r _ fun σ' δ' s q => f G' H' σ' δ' (s.okb (o.grow g')) q
theorem sd_if {ta tb : List Stmt} (hc : PwT X c δ fun t => (t = true → Sd X ta δ (fun δ' => Sd X rest δ' N R) R) ∧ (t = false → Sd X tb δ (fun δ' => Sd X rest δ' N R) R)) : Sd X (.If c ta tb pos :: rest) δ N R :=
  sd_step (ps_if pt_s pss_s pss_s) fun G0 H0 G H σ o E f g => hc.run G H σ o.ok _ fun t G' H' g' ⟨h1, h2⟩ => by
    cases t with
    | true => exact (h1 rfl).run G0 H0 G' H' σ (o.grow g') E f g
    | false => exact (h2 rfl).run G0 H0 G' H' σ (o.grow g') E f g
theorem sd_ret (he : Pw X e δ fun d => R d δ) : Sd X (.Return (some e) pos :: rest) δ N R :=
  sd_step (ps_ret pe_s) fun G0 H0 G H σ o E f g => he.run G H σ o.ok _ fun v d G' H' g' r q => g v d G' H' σ δ (o.grow g') r q
theorem sd_pass (q : Sd X rest δ N R) : Sd X (.Pass pos :: rest) δ N R := sd_step ps_pass fun G0 H0 G H σ o E f g => f G H σ δ o q
/-- what the proof never comes to -/
theorem sd_never (h : False) : Sd X rest δ N R := h.elim
/-- for: I by the turn; a turn may return -/
theorem sd_for {is : List Nat} (hp : PassesOwn (model X.prog X.w) X.A X.env X.xe) (hc : X.calm = true)
    (hi : PwI X tg iter δ fun ds => ∃ (α : Type) (xs : List α) (enc : α → D) (I : Nat → List Cell → Prop), ds = xs.map enc ∧ I 0 δ ∧
      (∀ (i : Nat) (x : α) (δ' : List Cell), xs[i]? = some x → I i δ' → PwG X tg (enc x) δ' is fun δ2 => Sd X body δ2 (I (i + 1)) R) ∧ (∀ δ', I xs.length δ' → Sd X rest δ' N R))
    (hs : ∀ x, foldedSetIterable iter X.env x = pure x := by intro _; rfl) : Sd X (.For tg iter body [] pos :: rest) δ N R :=
  sd_step (ps_for hp hc pi_s pg_s pss_s hs) fun G0 H0 G H σ o E f g => hi.run G H σ o.ok _ fun J G1 H1 ds g1 wk ⟨α, xs, enc, I, e, h0, hb, hd⟩ => by
    subst e
    have hlen : (xs.map enc).length = xs.length := List.length_map ..
    refine ⟨fun i m σ2 H2 => m = xs.length - i ∧ i ≤ xs.length ∧ ∃ G2 δ2, Okb G0 H0 G2 H2 σ2 δ2 ∧ Same G1 G2 ∧ I i δ2, ⟨xs.length, by simp, Nat.zero_le _, G1, δ, o.grow g1, Same.refl _, h0⟩, ?_⟩
    rintro i m σ2 H2 ⟨rfl, hi2, G2, δ2, o2, s2, I2⟩
    have sg2 : Same G1 H2 := s2.trans o2.gr.sg
    by_cases hlt : i < xs.length
    · refine .inr ⟨wk.go i H2 sg2 (by rw [hlen]; exact hlt), fun σ3 H3 => i + 1 ≤ xs.length ∧ ∃ G2 δ2, Okb G0 H0 G2 H3 σ3 δ2 ∧ Same G1 G2 ∧ I (i + 1) δ2, fun σ3 H3 ⟨h1, h2⟩ => ⟨xs.length - (i + 1), by omega, rfl, h1, h2⟩, fun x H3 y => ?_⟩
      obtain ⟨G3, d, hd3, g3, rx⟩ := wk.yld i H2 x H3 sg2 (by rw [hlen]; exact hlt) y G2 o2.gr.sg s2
      rw [List.getElem?_map, List.getElem?_eq_getElem hlt] at hd3
      cases hd3
      refine (hb i xs[i] δ2 (List.getElem?_eq_getElem hlt) I2).run G3 H3 σ2 x g3.sg rx _ fun σ4 δ4 s4 h4 => ?_
      have o4 : Okb G0 H0 G3 H3 σ4 δ4 := s4.okb (o2.grow g3)
      obtain ⟨Hb, ob, back⟩ := o4.rebase
      refine h4.run G3 Hb G3 H3 σ4 ob _ (fun G5 H5 σ5 δ5 o5 n5 => ?_) fun v d G5 H5 σ5 δ5 o5 r5 q5 => ?_
      · obtain ⟨h1, h2⟩ := back _ _ _ _ o5
        exact ⟨hlt, G5, δ5, h1, s2.trans (g3.g.trans h2), n5⟩
      · exact g v d G5 H5 σ5 δ5 (back _ _ _ _ o5).1 r5 q5
    · have e : i = xs.length := by omega
      subst e
      exact .inl ⟨by have := wk.stop H2 sg2; rwa [hlen] at this, f G2 H2 σ2 δ2 o2 (hd δ2 I2)⟩
end
end AL
namespace AL
open PySem PySem.Spec PyProof.Rows L2

def toD : M → Option D
  | .lst l => some (.lst l) | .tab l => some (.tab l) | .imp l => some (.imp l) | .ik l => some (.ik l) | .deb .. => none | .ox _ => none | .at _ m => toD m
theorem Own.frz {G H : Hp} {a : Addr} {m : M} {g : List Addr} {d : D} (o : Own G H a m g) (e : toD m = some d) : g = [a] ∧ ∃ u, H a = some u ∧ ∀ G', Same G G' → G' a = some u → DT G' (.ref a) d := by
  induction m with
  | lst l => cases e; obtain ⟨h, z, vs, e, r⟩ := o; exact ⟨h, _, e, fun G' s q => .lst q z (r.mo (.of s))⟩
  | tab l => cases e; obtain ⟨h, e⟩ := o; exact ⟨h, _, e, fun G' s q => .tab (.inl q)⟩
  | imp l => cases e; obtain ⟨h, e⟩ := o; exact ⟨h, _, e, fun G' s q => .imp (.inl q)⟩
  | ik l => cases e; obtain ⟨h, e⟩ := o; exact ⟨h, _, e, fun G' s q => .ik (.inl q)⟩
  | deb C sg sts cms => cases e
  | ox S => cases e
  | «at» b m ih => exact ih o.2 e
section
variable {G0 H0 G H : Hp} {σ : St} {δ : List Cell} {i : Nat} {m : M}
theorem Okb.own (o : Okb G0 H0 G H σ δ) (e : δ[i]? = some (Cell.ow m)) : ∃ (a : Addr) (g : List Addr), σ[i]? = some (some (V.ref a)) ∧ Own G H a m g ∧ (∀ b ∈ g, G b = none ∧ H0 b = none) ∧
    (∀ (H' : Hp) (m' : M), (∀ b, b ∉ g → H' b = H b) → Own G H' a m' g → Okb G0 H0 G H' σ (δ.set i (.ow m'))) ∧
    (∀ (u : HO) (d : D), g = [a] → H a = some u → DT (upd G a u) (.ref a) d → Okb G0 H0 (upd G a u) H σ (δ.set i (.im d))) := by
  obtain ⟨f, s, nd, fr⟩ := id o.sl
  obtain ⟨a, g, f1, f2, h1, h2, rfl, h4, h5⟩ := s.getO e
  have fg : ∀ b ∈ g, G b = none ∧ H0 b = none := fun b hb => fr b (by simp [hb])
  have dis : ∀ b ∈ f1 ++ f2, b ∉ g := fun b hb hg => by
    rw [List.nodup_append] at nd
    obtain ⟨n1, n2, n3⟩ := nd
    rw [List.nodup_append] at n2
    rcases List.mem_append.mp hb with q | q
    · exact n3 b q b (List.mem_append_left _ hg) rfl
    · exact n2.2.2 b hg b q rfl
  refine ⟨a, g, h1, h2, fg, fun H' m' k ow => ⟨⟨fun b x q => ?_, o.gr.g, fun b x q => ?_, o.gr.nw⟩, _, h4 G H' m' (.of (Same.refl _)) (fun b hb => k b (dis b hb)) ow, nd, fr⟩, fun u d eg eu dt => ?_⟩
  · rw [k b fun z => by rw [(fg b z).1] at q; cases q]; exact o.gr.sg b x q
  · rw [k b fun z => by rw [(fg b z).2] at q; cases q]; exact o.gr.h b x q
  · have na := fg a (by rw [eg]; simp)
    have s1 : Same G (upd G a u) := same_new na.1
    refine ⟨⟨fun b x q => ?_, o.gr.g.trans s1, o.gr.h, fun b x hb n => ?_⟩, _, h5 (upd G a u) H d (.of s1) (fun _ _ => rfl) dt, ?_, fun b hb => ?_⟩
    · by_cases hb : b = a
      · subst hb; rw [upd_same] at q; rw [eu]; exact q
      · rw [upd_ne hb] at q; exact o.gr.sg b x q
    · rw [upd_ne (fun z => by subst z; rw [na.2] at hb; cases hb)]; exact o.gr.nw b x hb n
    · exact nd.sublist (List.Sublist.append (.refl _) (List.sublist_append_right _ _))
    · have hx := fr b (by rcases List.mem_append.mp hb with q | q <;> simp [q])
      exact ⟨by rw [upd_ne (fun z => dis b hb (by rw [eg, z]; simp))]; exact hx.1, hx.2⟩
theorem Okb.newO (o : Okb G0 H0 G H σ δ) {p : Addr} {u : HO} (hp : H p = none) (hi : i < σ.length) (ow : Own G (upd H p u) p m [p]) : Okb G0 H0 G (upd H p u) (σ.set i (some (.ref p))) (δ.set i (.ow m)) := by
  obtain ⟨f, s, nd, fr⟩ := id o.sl
  have hk : ∀ b ∈ f, upd H p u b = H b := fun b hb => upd_ne fun z => by subst z; exact s.live b hb hp
  obtain ⟨f1, f2, s2, sub⟩ := (s.mo (.of (Same.refl G)) hk).setO i hi ow
  have nf : ∀ b ∈ f1 ++ f2, b ∈ f := fun b hb => sub.subset hb
  have np : p ∉ f1 ++ f2 := fun hb => s.live p (nf p hb) hp
  have nd2 : (f1 ++ ([p] ++ f2)).Nodup := by
    have n0 := nd.sublist sub
    rw [List.nodup_append] at n0 ⊢
    refine ⟨n0.1, ?_, fun x hx y hy e => ?_⟩
    · rw [List.singleton_append, List.nodup_cons]
      exact ⟨fun z => np (List.mem_append_right _ z), n0.2.1⟩
    · subst e
      rcases List.mem_append.mp hy with z | z
      · simp at z; subst z; exact np (List.mem_append_left _ hx)
      · exact n0.2.2 x hx x z rfl
  refine ⟨⟨fun b x q => ?_, o.gr.g, fun b x q => ?_, o.gr.nw⟩, _, s2, nd2, fun b hb => ?_⟩
  · exact same_new hp b x (o.gr.sg b x q)
  · exact same_new hp b x (o.gr.h b x q)
  · by_cases e : b = p
    · subst e; exact ⟨o.gr.sg.free hp, o.gr.h.free hp⟩
    · refine fr b (nf b ?_)
      simp at hb ⊢
      rcases hb with z | z | z
      · exact .inl z
      · exact absurd z e
      · exact .inr z
end

mutual
def noDict : D → Bool
  | .tab _ => false | .imp _ => false | .ik _ => false
  | .tup l => noDicts l | .lst l => noDicts l
  | .non => true | .bl _ => true | .int _ => true | .str _ => true
def noDicts : List D → Bool
  | [] => true
  | d :: r => noDict d && noDicts r
end
def minus (G : Hp) (a : Addr) : Hp := fun b => if b = a then none else G b
theorem minus_ne {G : Hp} {a b : Addr} (h : b ≠ a) : minus G a b = G b := if_neg h
mutual
theorem dt_minus {G : Hp} {a : Addr} {u : HO} (e : G a = some u) (hu : isDK u = true) : ∀ {v d}, DT G v d → noDict d = true → DT (minus G a) v d
  | _, _, .non, _ => .non
  | _, _, .bl b, _ => .bl b
  | _, _, .int i, _ => .int i
  | _, _, .str x, _ => .str x
  | _, _, @DT.tup _ b _ _ h z r, n => by
    simp only [noDict] at n
    exact .tup (by rw [minus_ne (fun z => by subst z; rw [e] at h; cases h; cases hu)]; exact h) z (dts_minus e hu r n)
  | _, _, @DT.lst _ b _ _ h z r, n => by
    simp only [noDict] at n
    exact .lst (by rw [minus_ne (fun z => by subst z; rw [e] at h; cases h; cases hu)]; exact h) z (dts_minus e hu r n)
  | _, _, .tab _, n => by simp [noDict] at n
  | _, _, .imp _, n => by simp [noDict] at n
  | _, _, .ik _, n => by simp [noDict] at n
theorem dts_minus {G : Hp} {a : Addr} {u : HO} (e : G a = some u) (hu : isDK u = true) : ∀ {vs ds}, DTs G vs ds → noDicts ds = true → DTs (minus G a) vs ds
  | _, _, .nil, _ => .nil
  | _, _, .cons h r, n => by
    simp only [noDicts, Bool.and_eq_true] at n
    exact .cons (dt_minus e hu h n.1) (dts_minus e hu r n.2)
end
/-- what may come back of a look at an owned object -/
def mayBack : M → D → Bool
  | .lst _, d => flatD d
  | .deb .., _ => false
  | .ox _, _ => false
  | .at _ m, d => mayBack m d
  | _, d => noDict d
theorem flat_dt {G G' : Hp} {v : V} {d : D} (r : DT G v d) (f : flatD d = true) : DT G' v d := by
  cases r with
  | non => exact .non
  | bl b => exact .bl b
  | int i => exact .int i
  | str x => exact .str x
  | tup _ _ _ => simp [flatD, toV] at f
  | lst _ _ _ => simp [flatD, toV] at f
  | tab _ => simp [flatD, toV] at f
  | imp _ => simp [flatD, toV] at f
  | ik _ => simp [flatD, toV] at f
theorem Own.back {G H : Hp} {a : Addr} {m : M} {g : List Addr} {u : HO} {d0 : D} (hd : toD m = some d0) (o : Own G H a m g) (e : H a = some u) : (∀ d, mayBack m d = true → flatD d = true) ∨ (isDK u = true ∧ ∀ d, mayBack m d = true → noDict d = true) := by
  induction m with
  | lst l => exact .inl fun d h => h
  | tab l => obtain ⟨_, e'⟩ := o; rw [e] at e'; cases e'; exact .inr ⟨rfl, fun d h => h⟩
  | imp l => obtain ⟨_, e'⟩ := o; rw [e] at e'; cases e'; exact .inr ⟨rfl, fun d h => h⟩
  | ik l => obtain ⟨_, e'⟩ := o; rw [e] at e'; cases e'; exact .inr ⟨rfl, fun d h => h⟩
  | deb C s t c => cases hd
  | ox S => cases hd
  | «at» b m ih => exact ih hd o.2
/-- an owned object is looked at -/
theorem pw_borrow {X : Cx} {e : Expr} {δ : List Cell} {Q : D → Prop} (i : Nat) {m : M} {d0 : D} (he : δ[i]? = some (Cell.ow m)) (hd : toD m = some d0) (h : Pw X e (δ.set i (.im d0)) fun d => mayBack m d = true ∧ Q d) : Pw X e δ Q :=
  ⟨fun G H σ o k f => by
    have ob : Okb G (fun _ => none) G H σ δ := by
      obtain ⟨fl, s, nd, fr⟩ := o.sl
      exact ⟨⟨o.sg, Same.refl _, (fun b x q => nomatch q), fun _ _ _ _ => rfl⟩, fl, s, nd, fun a ha => ⟨fr a ha, rfl⟩⟩
    obtain ⟨a, g, h1, h2, h3, h4, h5⟩ := ob.own he
    obtain ⟨rfl, u, hu, hdt⟩ := h2.frz hd
    have na : G a = none := (h3 a (by simp)).1
    have s1 : Same G (upd G a u) := same_new na
    refine h.run (upd G a u) H σ (h5 u d0 rfl hu (hdt _ s1 upd_same)).ok k fun v d G' H' g' r q => ?_
    have ea : G' a = some u := g'.g a u upd_same
    refine f v d (minus G' a) H' ⟨fun b x z => ?_, fun b x z => ?_, g'.h, fun b x hb n => ?_⟩ ?_ q.2
    · by_cases hb : b = a
      · subst hb; simp [minus] at z
      · rw [minus_ne hb] at z; exact g'.sg b x z
    · have hb : b ≠ a := ne_of_none z na
      rw [minus_ne hb]
      exact g'.g b x (by rw [upd_ne hb]; exact z)
    · by_cases hb' : b = a
      · subst hb'; rw [na]; simp [minus]
      · rw [minus_ne hb', g'.nw b x hb n, upd_ne hb']
    · rcases h2.back hd hu with hk | ⟨hk, hn⟩
      · exact flat_dt r (hk d q.1)
      · exact dt_minus ea hk r (hn d q.1)⟩
/-- the same for a test -/
theorem pwt_borrow {X : Cx} {e : Expr} {δ : List Cell} {Q : Bool → Prop} (i : Nat) {m : M} {d0 : D} (he : δ[i]? = some (Cell.ow m)) (hd : toD m = some d0) (h : PwT X e (δ.set i (.im d0)) Q) : PwT X e δ Q :=
  ⟨fun G H σ o k f => by
    have ob : Okb G (fun _ => none) G H σ δ := by
      obtain ⟨fl, s, nd, fr⟩ := o.sl
      exact ⟨⟨o.sg, Same.refl _, (fun b x q => nomatch q), fun _ _ _ _ => rfl⟩, fl, s, nd, fun a ha => ⟨fr a ha, rfl⟩⟩
    obtain ⟨a, g, h1, h2, h3, h4, h5⟩ := ob.own he
    obtain ⟨rfl, u, hu, hdt⟩ := h2.frz hd
    have na : G a = none := (h3 a (by simp)).1
    have s1 : Same G (upd G a u) := same_new na
    refine h.run (upd G a u) H σ (h5 u d0 rfl hu (hdt _ s1 upd_same)).ok k fun t G' H' g' q => ?_
    refine f t (minus G' a) H' ⟨fun b x z => ?_, fun b x z => ?_, g'.h, fun b x hb n => ?_⟩ q
    · by_cases hb : b = a
      · subst hb; simp [minus] at z
      · rw [minus_ne hb] at z; exact g'.sg b x z
    · have hb : b ≠ a := ne_of_none z na
      rw [minus_ne hb]
      exact g'.g b x (by rw [upd_ne hb]; exact z)
    · by_cases hb' : b = a
      · subst hb'; rw [na]; simp [minus]
      · rw [minus_ne hb', g'.nw b x hb n, upd_ne hb']⟩

section
variable {X : Cx} {e e2 : Expr} {es : List Expr} {st : Stmt} {rest body : List Stmt} {δ : List Cell} {N : List Cell → Prop} {R : D → List Cell → Prop} {pos p p2 p3 : Pos} {x : Str}
/-- from here on it stays as it is -/
theorem sd_freeze (i : Nat) {m : M} {d : D} (he : δ[i]? = some (Cell.ow m)) (hd : toD m = some d) (h : Sd X rest (δ.set i (.im d)) N R) : Sd X rest δ N R :=
  ⟨fun G0 H0 G H σ o E f g => by
    obtain ⟨a, fl, h1, h2, h3, h4, h5⟩ := o.own he
    obtain ⟨rfl, u, hu, hdt⟩ := h2.frz hd
    exact h.run G0 H0 (upd G a u) H σ (h5 u d rfl hu (hdt _ (same_new (h3 a (by simp)).1) upd_same)) E f g⟩
theorem sd_newL {i : Nat} (hN : X.N.Nodup) (hi : X.N[i]? = some x) (hx : Loc X.env.scope x) (hl : i < δ.length) (h : Sd X rest (δ.set i (.ow (.lst []))) N R) (hs : swapsWith (.List [] p2) (some (.Name x p)) pos.line X.env = pure false := by rfl)
    (hf : X.fn x = true ∨ X.env.scope.names.lookup x = some .local := by first | exact .inl rfl | exact .inr rfl) : Sd X (.Assign [.Name x p] (.List [] p2) pos :: rest) δ N R :=
  sd_step (ps_set hN hi hx (pe_lst pa_nil) hs hf) fun G0 H0 G H σ o E f g => ⟨Nat.zero_le _, fun q hq => f G _ _ _ (o.newO hq (by rw [o.ok.length]; exact hl) (show Own G (upd H q (.lst [])) q (.lst []) [q] from ⟨rfl, Nat.zero_le _, [], upd_same, .nil⟩)) h⟩
theorem sd_newT {i : Nat} (hN : X.N.Nodup) (hi : X.N[i]? = some x) (hx : Loc X.env.scope x) (hl : i < δ.length) (h : Sd X rest (δ.set i (.ow (.tab []))) N R) (hs : swapsWith (.Dict [] [] p2) (some (.Name x p)) pos.line X.env = pure false := by rfl)
    (hf : X.fn x = true ∨ X.env.scope.names.lookup x = some .local := by first | exact .inl rfl | exact .inr rfl) : Sd X (.Assign [.Name x p] (.Dict [] [] p2) pos :: rest) δ N R :=
  sd_step (ps_set hN hi hx pe_dnewT hs hf) fun G0 H0 G H σ o E f g => fun q hq => f G _ _ _ (o.newO hq (by rw [o.ok.length]; exact hl) (show Own G (upd H q (.dT [])) q (.tab []) [q] from ⟨rfl, upd_same⟩)) h
theorem sd_newK {i : Nat} (hN : X.N.Nodup) (hi : X.N[i]? = some x) (hx : Loc X.env.scope x) (hl : i < δ.length) (h : Sd X rest (δ.set i (.ow (.ik []))) N R) (hs : swapsWith (.Dict [] [] p2) (some (.Name x p)) pos.line X.env = pure false := by rfl)
    (hf : X.fn x = true ∨ X.env.scope.names.lookup x = some .local := by first | exact .inl rfl | exact .inr rfl) : Sd X (.Assign [.Name x p] (.Dict [] [] p2) pos :: rest) δ N R :=
  sd_step (ps_set hN hi hx pe_dnewK hs hf) fun G0 H0 G H σ o E f g => fun q hq => f G _ _ _ (o.newO hq (by rw [o.ok.length]; exact hl) (show Own G (upd H q (.dK [])) q (.ik []) [q] from ⟨rfl, upd_same⟩)) h
theorem sd_newI {i : Nat} (hN : X.N.Nodup) (hi : X.N[i]? = some x) (hx : Loc X.env.scope x) (hl : i < δ.length) (h : Sd X rest (δ.set i (.ow (.imp []))) N R) (hs : swapsWith (.Dict [] [] p2) (some (.Name x p)) pos.line X.env = pure false := by rfl)
    (hf : X.fn x = true ∨ X.env.scope.names.lookup x = some .local := by first | exact .inl rfl | exact .inr rfl) : Sd X (.Assign [.Name x p] (.Dict [] [] p2) pos :: rest) δ N R :=
  sd_step (ps_set hN hi hx pe_dnewK hs hf) fun G0 H0 G H σ o E f g => fun q hq => f G _ _ _ (o.newO hq (by rw [o.ok.length]; exact hl) (show Own G (upd H q (.dK [])) q (.imp []) [q] from ⟨rfl, upd_same⟩)) h
/-- an owned object across a pure step -/
theorem own_step {G0 H0 G H G' H' : Hp} {σ : St} {i : Nat} {m : M} (o : Okb G0 H0 G H σ δ) (he : δ[i]? = some (Cell.ow m)) {a : Addr} (ha : σ[i]? = some (some (V.ref a))) (g : Gr G H G' H') : ∃ fl, Own G' H' a m fl ∧
    (∀ (H2 : Hp) (m' : M), (∀ b, b ∉ fl → H2 b = H' b) → Own G' H2 a m' fl → Okb G0 H0 G' H2 σ (δ.set i (.ow m'))) := by
  obtain ⟨a', fl, h1, h2, h3, h4, h5⟩ := (o.grow g).own he
  rw [ha] at h1
  cases h1
  exact ⟨fl, h2, h4⟩
/-- x.append(e) -/
theorem sd_append {i : Nat} {l : List D} {apos : Pos} (he : δ[i]? = some (Cell.ow (.lst l))) (hN : X.N[i]? = some x) (hv : Vis X.env.scope x) (h : Pw X e δ fun d => l.length < sizeLine ∧ Sd X rest (δ.set i (.ow (.lst (l ++ [d])))) N R) (hd : (x == ("__debug__" : Str)) = false := by decide) (hcd : (x == ("__classdict__" : Str)) = false := by decide)
    (hb : attributeBase (.Name x p) "append" X.env (eval (.Name x p) X.env) = eval (.Name x p) X.env := by rfl)
    (hfew : ((backTo p2 (starEach [e] X.env)).all (fun x => !x.1) && (backToKw p2 (keywordEach [] X.env)).all (fun x => x.1.isSome) && decide (([e] : List Expr).length + ([] : List Keyword).length + (if ([] : List Keyword).isEmpty then 0 else 1) < 30)) = true := by rfl)
    (hline : (apos.endLine == p2.line) = true := by rfl) (hs : starEach [e] X.env = (false, eval e X.env) :: starEach [] X.env := by rfl) (hpl : (backTo p2 (starEach [] X.env)).any (·.1) = false := by rfl)
    (hsw : swapsWith (.Call (.Attribute (.Name x p) "append" apos) [e] [] p2) none p3.line X.env = pure false := by rfl) :
    Sd X (.Expr (.Call (.Attribute (.Name x p) "append" apos) [e] [] p2) p3 :: rest) δ N R :=
  sd_step (ps_expr (pe_bm PySem.F.plainAttrs_list PySem.F.slot_list_append PySem.F.type_list_append mt_append (pe_var hN hv hd hcd) (pa_cons pe_s pa_nil hs) hb hfew hline hs hpl) hsw) fun G0 H0 G H σ o E f g => by
    obtain ⟨a, fl, h1, h2, _⟩ := o.own he
    obtain ⟨_, z, vs, e1, r1⟩ := h2
    refine ⟨.ref a, h1, .inl ⟨rfl, vs, .of e1⟩, h.run G H σ o.ok _ fun v d G' H' g' r ⟨hz, q⟩ => ?_⟩
    obtain ⟨fl', h2', k'⟩ := own_step o he h1 g'
    obtain ⟨rfl, z', vs', e', r'⟩ := h2'
    refine ⟨a, vs', v, rfl, rfl, e', by rw [r'.length]; exact hz, f G' _ σ _ (k' _ (.lst (l ++ [d])) (fun b hb => upd_ne (by simpa using hb)) ⟨rfl, ?_, _, upd_same, r'.app (.cons r .nil)⟩) q⟩
    rw [List.length_append]
    exact hz
/-- x.extend(e), e a list -/
theorem sd_extend {i : Nat} {l : List D} {apos : Pos} (he : δ[i]? = some (Cell.ow (.lst l))) (hN : X.N[i]? = some x) (hv : Vis X.env.scope x) (h : Pw X e δ fun d => ∃ l2, d = .lst l2 ∧ l.length + l2.length ≤ sizeLine ∧ Sd X rest (δ.set i (.ow (.lst (l ++ l2)))) N R) (hd : (x == ("__debug__" : Str)) = false := by decide) (hcd : (x == ("__classdict__" : Str)) = false := by decide)
    (hb : attributeBase (.Name x p) "extend" X.env (eval (.Name x p) X.env) = eval (.Name x p) X.env := by rfl)
    (hfew : ((backTo p2 (starEach [e] X.env)).all (fun x => !x.1) && (backToKw p2 (keywordEach [] X.env)).all (fun x => x.1.isSome) && decide (([e] : List Expr).length + ([] : List Keyword).length + (if ([] : List Keyword).isEmpty then 0 else 1) < 30)) = true := by rfl)
    (hline : (apos.endLine == p2.line) = true := by rfl) (hs : starEach [e] X.env = (false, eval e X.env) :: starEach [] X.env := by rfl) (hpl : (backTo p2 (starEach [] X.env)).any (·.1) = false := by rfl)
    (hsw : swapsWith (.Call (.Attribute (.Name x p) "extend" apos) [e] [] p2) none p3.line X.env = pure false := by rfl) :
    Sd X (.Expr (.Call (.Attribute (.Name x p) "extend" apos) [e] [] p2) p3 :: rest) δ N R :=
  sd_step (ps_expr (pe_bm PySem.F.plainAttrs_list PySem.F.slot_list_extend PySem.F.type_list_extend mt_extend (pe_var hN hv hd hcd) (pa_cons pe_s pa_nil hs) hb hfew hline hs hpl) hsw) fun G0 H0 G H σ o E f g => by
    obtain ⟨a, fl, h1, h2, _⟩ := o.own he
    obtain ⟨_, z, vs, e1, r1⟩ := h2
    refine ⟨.ref a, h1, .inl ⟨rfl, vs, .of e1⟩, h.run G H σ o.ok _ fun v d G' H' g' r ⟨l2, ed, hz, q⟩ => ?_⟩
    subst ed
    obtain ⟨fl', h2', k'⟩ := own_step o he h1 g'
    obtain ⟨rfl, z', vs', e', r'⟩ := h2'
    cases r with
    | lst e2 z2 r2 =>
      refine ⟨a, _, vs', _, rfl, rfl, e', g'.sg _ _ e2, by rw [r'.length, r2.length]; exact hz, f G' _ σ _ (k' _ (.lst (l ++ l2)) (fun b hb => upd_ne (by simpa using hb)) ⟨rfl, ?_, _, upd_same, r'.app r2⟩) q⟩
      rw [List.length_append]
      exact hz

def putT (l : List (Int × Int)) (k : Int × Int) : List (Int × Int) := if k ∈ l then l else l ++ [k]
def putI (l : List Int) (k : Int) : List Int := if k ∈ l then l else l ++ [k]
theorem tabE_key {q k : Int × Int} : (tabE q).1 = ([Sum.inl k.1, Sum.inl k.2] : List Key) ↔ q = k := by
  obtain ⟨a, b⟩ := q; obtain ⟨c, d⟩ := k
  simp [tabE]
theorem val_tab (l : List (Int × Int)) (k : Int × Int) : (valV (l.map tabE) ([Sum.inl k.1, Sum.inl k.2] : List Key)) = if k ∈ l then some (.bl true) else none := by
  induction l with
  | nil => rfl
  | cons q r ih =>
    rw [List.map_cons]
    by_cases e : q = k
    · rw [valV_pos (tabE_key.mpr e), if_pos (by simp [e])]; rfl
    · rw [valV_neg (fun z => e (tabE_key.mp z)), ih]
      simp [Ne.symm e]
theorem put_tab (l : List (Int × Int)) (k : Int × Int) : putK (l.map tabE) ([Sum.inl k.1, Sum.inl k.2] : List Key) (.bl true) = (putT l k).map tabE := by
  unfold putT
  by_cases h : k ∈ l
  · rw [if_pos h]
    unfold putK
    have hany : ((l.map tabE).any fun kv => decide (kv.1 = ([Sum.inl k.1, Sum.inl k.2] : List Key))) = true := by
      rw [valV_any, val_tab, if_pos h]; rfl
    rw [if_pos hany, List.map_map]
    apply List.map_congr_left
    intro q _
    show (if (tabE q).1 = _ then ((tabE q).1, V.bl true) else tabE q) = tabE q
    split <;> rfl
  · rw [if_neg h, putK_new _ (by rw [val_tab, if_neg h]), List.map_append]
    rfl
theorem val_ik (l : List Int) (k : Int) : valV (l.map ikE) (Sum.inl k : Key) = if k ∈ l then some (.bl true) else none := by
  induction l with
  | nil => rfl
  | cons q r ih =>
    rw [List.map_cons]
    by_cases e : q = k
    · rw [valV_pos (by rw [e]; rfl), if_pos (by simp [e])]; rfl
    · rw [valV_neg (fun z => e (Sum.inl.inj z)), ih]
      simp [Ne.symm e]
theorem put_ik (l : List Int) (k : Int) : putK (l.map ikE) (Sum.inl k : Key) (.bl true) = (putI l k).map ikE := by
  unfold putI
  by_cases h : k ∈ l
  · rw [if_pos h]
    unfold putK
    have hany : ((l.map ikE).any fun kv => decide (kv.1 = (Sum.inl k : Key))) = true := by
      rw [valV_any, val_ik, if_pos h]; rfl
    rw [if_pos hany, List.map_map]
    apply List.map_congr_left
    intro q _
    show (if (ikE q).1 = _ then ((ikE q).1, V.bl true) else ikE q) = ikE q
    split <;> rfl
  · rw [if_neg h, putK_new _ (by rw [val_ik, if_neg h]), List.map_append]
    rfl
/-- x[k] = True, x a dict of pairs -/
theorem sd_putT {i : Nat} {l : List (Int × Int)} {j : Nat} {pt pb : Pos} (hu : X.A.units + 1 < cLine) (he : δ[i]? = some (Cell.ow (.tab l))) (hN : X.N[i]? = some x) (hv : Vis X.env.scope x) (hz : l.length < sizeLine)
    (h : Pw X e δ fun d => ∃ a b, d = .tup [.int a, .int b] ∧ Sd X rest (δ.set i (.ow (.tab (putT l (a, b))))) N R) (hd : (x == ("__debug__" : Str)) = false := by decide) (hcd : (x == ("__classdict__" : Str)) = false := by decide)
    (hs : swapsWith (.Constant (.bool true) j pb) (some (.Subscript (.Name x p) e pt)) pos.line X.env = pure false := by rfl) : Sd X (.Assign [.Subscript (.Name x p) e pt] (.Constant (.bool true) j pb) pos :: rest) δ N R :=
  sd_step (ps_dput hu (pe_var hN hv hd hcd) pe_s pe_bl hs) fun G0 H0 G H σ o E f g => by
    obtain ⟨a, fl, h1, h2, _⟩ := o.own he
    refine ⟨.ref a, h1, h.run G H σ o.ok _ fun v d G' H' g' r ⟨i1, i2, ed, q⟩ => ?_⟩
    subst ed
    obtain ⟨fl', h2', k'⟩ := own_step o he h1 g'
    obtain ⟨rfl, e'⟩ := h2'
    cases r with
    | tup e2 z2 r2 =>
      obtain ⟨v1, v2, rfl, q1, q2⟩ := r2.two
      cases q1; cases q2
      have e3 : H' _ = some (.tup (([Sum.inl i1, Sum.inl i2] : List Key).map kV)) := g'.sg _ _ e2
      refine ⟨a, _, rfl, DPut.t e' e3 (by rw [List.length_map]; exact hz), f G' _ σ _ (k' _ (.tab (putT l (i1, i2))) (fun b hb => upd_ne (by simpa using hb)) ⟨rfl, ?_⟩) q⟩
      rw [upd_same, put_tab l (i1, i2)]
/-- x[k] = True, x a dict of ints -/
theorem sd_putK {i : Nat} {l : List Int} {j : Nat} {pt pb : Pos} (hu : X.A.units + 1 < cLine) (he : δ[i]? = some (Cell.ow (.ik l))) (hN : X.N[i]? = some x) (hv : Vis X.env.scope x) (hz : l.length < sizeLine)
    (h : Pw X e δ fun d => ∃ a, d = .int a ∧ Sd X rest (δ.set i (.ow (.ik (putI l a)))) N R) (hd : (x == ("__debug__" : Str)) = false := by decide) (hcd : (x == ("__classdict__" : Str)) = false := by decide)
    (hs : swapsWith (.Constant (.bool true) j pb) (some (.Subscript (.Name x p) e pt)) pos.line X.env = pure false := by rfl) : Sd X (.Assign [.Subscript (.Name x p) e pt] (.Constant (.bool true) j pb) pos :: rest) δ N R :=
  sd_step (ps_dput hu (pe_var hN hv hd hcd) pe_s pe_bl hs) fun G0 H0 G H σ o E f g => by
    obtain ⟨a, fl, h1, h2, _⟩ := o.own he
    refine ⟨.ref a, h1, h.run G H σ o.ok _ fun v d G' H' g' r ⟨i1, ed, q⟩ => ?_⟩
    subst ed
    obtain ⟨fl', h2', k'⟩ := own_step o he h1 g'
    obtain ⟨rfl, e'⟩ := h2'
    cases r with
    | int _ =>
      refine ⟨a, _, rfl, DPut.k (k := Sum.inl i1) e' (by rw [List.length_map]; exact hz), f G' _ σ _ (k' _ (.ik (putI l i1)) (fun b hb => upd_ne (by simpa using hb)) ⟨rfl, ?_⟩) q⟩
      rw [upd_same, put_ik]
end

def Df (K : PySem.W.Frag) (mg : Str → Option Value) (x : Str) (st : Stmt) : Prop := ∃ f fd, mg x = some (.ref f) ∧ Fun K x x st f fd
abbrev fx (P : Program) (w : World) (K : PySem.W.Frag) (mg : Str → Option Value) (base : Heap) (N : List Str) (qual : Str) (sc : Scope) (f : Addr) (cdv : Value) (A : Around) (outer : List Env) (s : Shared) (H : Hp) (E : XK) : Cx :=
  (cxOf CX0 P w K mg base N qual sc f cdv A outer s H E).nox
def startC (N : List Str) (ds : List D) : List Cell := ds.map .im ++ List.replicate (N.length - ds.length) .un
theorem sl_start {G H : Hp} : ∀ {vs : List V} {ds : List D} (n : Nat), DTs G vs ds → Sl G H (vs.map some ++ List.replicate n none) (ds.map .im ++ List.replicate n .un) []
  | _, _, n, .nil => by
    show Sl G H (List.replicate n none) (List.replicate n .un) []
    induction n with
    | zero => exact .nil
    | succ n ih => exact .un ih
  | _, _, n, .cons h r => .im h (sl_start n r)
theorem okb_start {G H : Hp} {N : List Str} {vs : List V} {ds : List D} (s : Same G H) (r : DTs G vs ds) : Okb G H G H (L2.start N vs) (startC N ds) :=
  ⟨.refl s, [], by unfold L2.start startC; rw [r.length]; exact sl_start _ r, List.nodup_nil, fun a ha => nomatch ha⟩
theorem fn_pure {P : Program} {w : World} {K : PySem.W.Frag} {mg : Str → Option Value} {base : Heap} {x : Str} {st : Stmt} {N ps : List Str} {k : Nat} {Rl : List D → D → Prop} (T : Df K mg x st) (S : FnScope N ps (defScope st))
    (hb : ∀ (kV doc pm : Value) (an : Option Addr) (cdv ct : Value) (us : List Value), us.length = ps.length → bindArgs (PySem.W.fnOf x x (defArgs st) (defBody st) (defScope st) .none kV doc pm an cdv ct) ⟨us, []⟩ = pure (ps.zip us))
    (len : ∀ ds r, Rl ds r → ds.length = ps.length)
    (body : ∀ ds r, Rl ds r → ∀ (f : Addr) (cdv : Value) (A : Around) (outer : List Env) (s : Shared) (H : Hp) (E : XK), Room k (A.deeper (envOfC x (defScope st) s.heap.objs.size f cdv)) →
      Sd (fx P w K mg base N x (defScope st) f cdv A outer s H E) (defBody st) (startC N ds) (fun _ => r = .non) (fun d _ => d = r)) : FnP P w K mg base x (k + 1) Rl := by
  obtain ⟨f, fd, hm, F⟩ := T
  refine ⟨f, fd, ps, hm, F.kp, F.binds hb, F.ok S (fun vs H Q E ⟨G, ds, r, _, h, hr, _⟩ => by rw [h.length]; exact len ds r hr) fun cdv A outer s H vs Q E hr ⟨G, ds, r, sg, h, hrl, q⟩ => ?_⟩
  refine ⟨_, pss_s, (body ds r hrl f cdv A outer s H E hr).run G H G H _ (okb_start sg h) _ (fun G' H' σ' δ' o e => ?_) fun v d G' H' σ' δ' o dt e => ?_⟩
  · subst e; exact q .non G' H' o.gr .non
  · subst e; exact q v G' H' o.gr dt
end AL
namespace AL
open PySem PySem.Spec PyProof.Rows L2

section
variable {X : Cx} {e a b c tg : Expr} {es : List Expr} {δ : List Cell} {Q : D → Prop} {QT : Bool → Prop} {pos p p2 : Pos} {x : Str}
theorem mf_lock {G : Hp} {d : Addr} {l : List (List Key × V)} (e : G d = some (.dT l)) (od : Obj) : Mf G (upd G d (.frz od (.dT l))) where
  tup := fun {b vs} h => by rw [upd_ne (fun z => by subst z; rw [e] at h; cases h)]; exact h
  lst := fun {b vs} h => by rw [upd_ne (fun z => by subst z; rw [e] at h; cases h)]; exact h
  rd := fun {b u} _ h => by
    by_cases hb : b = d
    · subst hb
      rcases h with h | ⟨o, h⟩
      · rw [e] at h; cases h; exact .inr ⟨od, upd_same⟩
      · rw [e] at h; cases h
    · rcases h with h | ⟨o, h⟩
      · exact .inl (by rw [upd_ne hb]; exact h)
      · exact .inr ⟨o, by rw [upd_ne hb]; exact h⟩
  fz := fun {b o u} h => by rw [upd_ne (fun z => by subst z; rw [e] at h; cases h)]; exact h
theorem mo_unlock {G : Hp} {d : Addr} {od : Obj} {l : List (List Key × V)} (e : G d = some (.frz od (.dT l))) : Mo G (upd G d (.dT l)) where
  tup := fun {b vs} h => by rw [upd_ne (fun z => by subst z; rw [e] at h; cases h)]; exact h
  lst := fun {b vs} h => by rw [upd_ne (fun z => by subst z; rw [e] at h; cases h)]; exact h
  rd := fun {b u} hk h => by
    by_cases hb : b = d
    · subst hb
      rcases h with h | ⟨o, h⟩
      · rw [e] at h; cases h; cases hk
      · rw [e] at h; cases h; exact .inl upd_same
    · rcases h with h | ⟨o, h⟩
      · exact .inl (by rw [upd_ne hb]; exact h)
      · exact .inr ⟨o, by rw [upd_ne hb]; exact h⟩
/-- a read table, locked; and back -/
theorem lock_core {G H : Hp} {σ : St} (o : Ok G H σ δ) {i : Nat} {l : List (Int × Int)} (he : δ[i]? = some (Cell.im (.tab l))) {d : Addr} (hv : σ[i]? = some (some (V.ref d))) (e1 : G d = some (.dT (l.map tabE))) (od : Obj) :
    Ok (upd G d (.frz od (.dT (l.map tabE)))) (upd H d (.frz od (.dT (l.map tabE)))) σ (δ.set i (.lk l)) ∧
    ∀ G' H', Gr (upd G d (.frz od (.dT (l.map tabE)))) (upd H d (.frz od (.dT (l.map tabE)))) G' H' → H' d = some (.frz od (.dT (l.map tabE))) ∧ Gr G H (upd G' d (.dT (l.map tabE))) (upd H' d (.dT (l.map tabE))) ∧ Mo G' (upd G' d (.dT (l.map tabE))) := by
  obtain ⟨fl, s, nd, fr⟩ := id o.sl
  have nf : ∀ b ∈ fl, b ≠ d := fun b hb z => by subst z; rw [fr b hb] at e1; cases e1
  have s1 := (s.mo (H' := upd H d (.frz od (.dT (l.map tabE)))) (mf_lock e1 od) fun b hb => upd_ne (nf b hb)).lock (i := i) hv upd_same ⟨_, he⟩
  have sg1 : Same (upd G d (.frz od (.dT (l.map tabE)))) (upd H d (.frz od (.dT (l.map tabE)))) := fun b x q => by
    by_cases hb : b = d
    · subst hb; rw [upd_same] at q ⊢; exact q
    · rw [upd_ne hb] at q ⊢; exact o.sg b x q
  refine ⟨⟨sg1, fl, s1, nd, fun b hb => by rw [upd_ne (nf b hb)]; exact fr b hb⟩, fun G' H' g' => ?_⟩
  have eG : G' d = some (.frz od (.dT (l.map tabE))) := g'.g _ _ upd_same
  refine ⟨g'.h _ _ upd_same, ⟨fun b x q => ?_, fun b x q => ?_, fun b x q => ?_, fun b x q n => ?_⟩, mo_unlock eG⟩
  · by_cases hb : b = d
    · subst hb; rw [upd_same] at q ⊢; exact q
    · rw [upd_ne hb] at q ⊢; exact g'.sg b x q
  · by_cases hb : b = d
    · subst hb; rw [e1] at q; rw [upd_same]; exact q
    · rw [upd_ne hb]; exact g'.g b x (by rw [upd_ne hb]; exact q)
  · by_cases hb : b = d
    · subst hb; rw [o.sg _ _ e1] at q; rw [upd_same]; exact q
    · rw [upd_ne hb]; exact g'.h b x (by rw [upd_ne hb]; exact q)
  · by_cases hb : b = d
    · subst hb; rw [upd_same, e1]
    · rw [upd_ne hb, g'.nw b x (by rw [upd_ne hb]; exact q) n, upd_ne hb]
/-- a read table is locked while an expression walks it -/
theorem pw_lockT (i : Nat) {l : List (Int × Int)} (he : δ[i]? = some (Cell.im (.tab l))) (h : Pw X e (δ.set i (.lk l)) Q) : Pw X e δ Q :=
  ⟨fun G H σ o k f => by
    obtain ⟨v, hv, r⟩ := o.get he
    cases r with
    | @tab d _ rd =>
      rcases rd with e1 | ⟨od, e1⟩
      · refine sE_of (pe_lock pe_s) ⟨d, _, o.sg _ _ e1, trivial, fun od => ?_⟩
        obtain ⟨o1, back⟩ := lock_core o he hv e1 od
        refine h.run _ _ σ o1 _ fun v' d' G' H' g' r' q' => ?_
        obtain ⟨b1, b2, b3⟩ := back _ _ g'
        exact ⟨b1, f v' d' _ _ b2 (r'.mo b3) q'⟩
      · obtain ⟨fl, s, nd, fr⟩ := o.sl
        exact h.run G H σ ⟨o.sg, fl, s.lock hv e1 ⟨_, he⟩, nd, fr⟩ k f⟩
/-- the same over a store -/
theorem sd_lockX {st : Stmt} {rest : List Stmt} {N : List Cell → Prop} {R : D → List Cell → Prop} (i : Nat) {l : List (Int × Int)} {t : TE} {j : Nat} (he : δ[i]? = some (Cell.im (.tab l))) (hps : PS X st (tAsg t (gName j))) (h : PwX t (δ.set i (.lk l)) fun d => Sd X rest (δ.set j (.im d)) N R) : Sd X (st :: rest) δ N R :=
  ⟨fun G0 H0 G H σ o E f g => by
    obtain ⟨v, hv, r⟩ := o.ok.get he
    cases r with
    | @tab d _ rd =>
      rcases rd with e1 | ⟨od, e1⟩
      · refine sSs_of (pss_cons (ps_lock hps) pss_s) ⟨d, _, o.ok.sg _ _ e1, trivial, fun od => ?_⟩
        obtain ⟨o1, back⟩ := lock_core o.ok he hv e1 od
        refine h.run _ _ σ o1 _ fun v' d' G' H' g' r' q' => ?_
        obtain ⟨b1, b2, b3⟩ := back _ _ g'
        exact ⟨b1, q'.run G0 H0 _ _ _ ((o.grow b2).set j (r'.mo b3)) E f g⟩
      · obtain ⟨fl, s, nd, fr⟩ := o.ok.sl
        refine sSs_of (pss_cons hps pss_s) ?_
        exact h.run G H σ ⟨o.ok.sg, fl, s.lock hv e1 ⟨_, he⟩, nd, fr⟩ _ fun v' d' G' H' g' r' q' => q'.run G0 H0 _ _ _ ((o.grow g').set j r') E f g⟩
def prD (q : Int × Int) : D := .tup [.int q.1, .int q.2]
theorem wk_keysT {G : Hp} {d : Addr} {o : Obj} {l : List (Int × Int)} (e : G d = some (.frz o (.dT (l.map tabE)))) (z : l.length ≤ sizeLine) : Wk (Itkt d o (l.map tabE)) (l.map prD) G where
  len := by rw [List.length_map]; exact z
  go := fun i H s h => ⟨s _ _ e, by simpa using h⟩
  stop := fun H s => ⟨s _ _ e, by simp⟩
  yld := fun i H x H' s h y G1 s1 g1 => by
    obtain ⟨rfl, k, v, q, hk, rfl, hq⟩ := y
    rw [List.length_map] at h
    rw [List.getElem?_map, List.getElem?_eq_getElem h] at hk
    have hk' : tabE l[i] = (k, v) := Option.some.inj hk
    have ek : k = [Sum.inl l[i].1, Sum.inl l[i].2] := by have := congrArg Prod.fst hk'; exact this.symm
    subst ek
    have hd : (l.map prD)[i]? = some (prD l[i]) := by rw [List.getElem?_map, List.getElem?_eq_getElem h]; rfl
    cases e1 : G1 q with
    | some o1 =>
      have e2 := s1 _ _ e1
      rw [hq] at e2
      cases e2
      exact ⟨G1, _, hd, .refl s1, .tup e1 (le_line (show 2 ≤ 100000 by decide)) (.cons (.int _) (.cons (.int _) .nil))⟩
    | none =>
      refine ⟨upd G1 q (.tup [.int l[i].1, .int l[i].2]), _, hd, ⟨fun b x z => ?_, same_new e1, Same.refl _, fun b x z n => ?_⟩, .tup upd_same (le_line (show 2 ≤ 100000 by decide)) (.cons (.int _) (.cons (.int _) .nil))⟩
      · by_cases hb : b = q
        · subst hb; rw [upd_same] at z; rw [← z]; exact hq
        · rw [upd_ne hb] at z; exact s1 b x z
      · exact upd_ne fun w => by subst w; rw [hq] at z; cases z; cases n
theorem Ok.getL {G H : Hp} {σ : St} (o : Ok G H σ δ) {i : Nat} {l : List (Int × Int)} (e : δ[i]? = some (Cell.lk l)) : ∃ d ob, σ[i]? = some (some (V.ref d)) ∧ G d = some (.frz ob (.dT (l.map tabE))) := let ⟨_, s, _⟩ := o.sl; s.getL e
theorem pwi_lk {QI : List D → Prop} {i : Nat} {l : List (Int × Int)} (hN : X.N.findIdx? (fun y => y == x) = some i) (hv : Vis X.env.scope x) (he : δ[i]? = some (Cell.lk l)) (hz : l.length ≤ sizeLine) (q : QI (l.map prD)) (hd : (x == ("__debug__" : Str)) = false := by decide) (hcd : (x == ("__classdict__" : Str)) = false := by decide) : PwI X tg (.Name x pos) δ QI :=
  ⟨fun G H σ o R f => by
    obtain ⟨d, ob, e1, e2⟩ := o.getL he
    exact sI_of (pi_keys (pe_var (ix_get hN) hv hd hcd)) ⟨.ref d, e1, d, ob, rfl, .inr ⟨_, o.sg _ _ e2, f _ G H _ (.refl o.sg) (wk_keysT e2 hz) q⟩⟩⟩

theorem dt_pair {G : Hp} {v : V} {i j : Int} (r : DT G v (.tup [.int i, .int j])) : ∃ q, v = .ref q ∧ G q = some (.tup [.int i, .int j]) := by
  cases r with
  | tup e z r =>
    obtain ⟨v1, v2, rfl, q1, q2⟩ := r.two
    cases q1; cases q2
    exact ⟨_, rfl, e⟩
/-- the key pair in a table -/
theorem sE_inT (hu : X.A.units + 1 < cLine) (ha : Pw X a δ fun d1 => Pw X b δ fun d2 => ∃ i j l, d1 = .tup [.int i, .int j] ∧ d2 = .tab l ∧ Q (.bl (decide ((i, j) ∈ l)))) {G H : Hp} {σ : St} (o : Ok G H σ δ) {k : VK} (f : ∀ v d G' H', Gr G H G' H' → DT G' v d → Q d → k v H') : tDIn (sE X a) (sE X b) σ H k := by
  refine ha.run G H σ o _ fun v1 d1 G1 H1 g1 r1 hb => hb.run G1 H1 σ (o.grow g1) _ fun v2 d2 G2 H2 g2 r2 ⟨i, j, l, e1, e2, q⟩ => ?_
  subst e1 e2
  obtain ⟨q1, rfl, eq1⟩ := dt_pair (g2.dt r1)
  cases r2 with
  | @tab d _ rd =>
    have rd' : Rd H2 d (.dT (l.map tabE)) := rd.elim (fun z => .inl (g2.sg _ _ z)) fun ⟨o, z⟩ => .inr ⟨o, g2.sg _ _ z⟩
    refine ⟨d, _, rfl, .inr ⟨_, [Sum.inl i, Sum.inl j], q1, rd', rfl, g2.sg _ _ eq1, rfl⟩, ?_⟩
    rw [val_tab l (i, j)]
    have e : (if (i, j) ∈ l then some (V.bl true) else none).isSome = decide ((i, j) ∈ l) := by by_cases h : (i, j) ∈ l <;> simp [h]
    rw [e]
    exact f _ _ G2 H2 (g1.trans g2) (.bl _) q
theorem pw_inT (hu : X.A.units + 1 < cLine) (ha : Pw X a δ fun d1 => Pw X b δ fun d2 => ∃ i j l, d1 = .tup [.int i, .int j] ∧ d2 = .tab l ∧ Q (.bl (decide ((i, j) ∈ l)))) (hm : behindInMarks .In b = false := by rfl) : Pw X (.Compare a [.In] [b] pos) δ Q :=
  ⟨fun G H σ o k f => sE_of (pe_cmp (pc_din hu pe_s pe_s) hm) (sE_inT hu ha o f)⟩
theorem pwt_inT (hu : X.A.units + 1 < cLine) (ha : Pw X a δ fun d1 => Pw X b δ fun d2 => ∃ i j l, d1 = .tup [.int i, .int j] ∧ d2 = .tab l ∧ QT (decide ((i, j) ∈ l))) (hm : behindInMarks .In b = false := by rfl) : PwT X (.Compare a [.In] [b] pos) δ QT :=
  ⟨fun G H σ o k f => sT_of (pt_cmp (pc_din hu pe_s pe_s) hm) (sE_inT (Q := fun d => ∃ t, d = .bl t ∧ QT t) hu (ha.imp fun _ h => h.imp fun _ ⟨i, j, l, e1, e2, q⟩ => ⟨i, j, l, e1, e2, _, rfl, q⟩) o fun v d G' H' g r ⟨t, e, q⟩ => by subst e; cases r; exact ⟨t, rfl, f t G' H' g q⟩)⟩
theorem sE_inK (hu : X.A.units + 1 < cLine) (ha : Pw X a δ fun d1 => Pw X b δ fun d2 => ∃ i l, d1 = .int i ∧ d2 = .ik l ∧ Q (.bl (decide (i ∈ l)))) {G H : Hp} {σ : St} (o : Ok G H σ δ) {k : VK} (f : ∀ v d G' H', Gr G H G' H' → DT G' v d → Q d → k v H') : tDIn (sE X a) (sE X b) σ H k := by
  refine ha.run G H σ o _ fun v1 d1 G1 H1 g1 r1 hb => hb.run G1 H1 σ (o.grow g1) _ fun v2 d2 G2 H2 g2 r2 ⟨i, l, e1, e2, q⟩ => ?_
  subst e1 e2
  cases r1
  cases r2 with
  | @ik d _ rd =>
    have rd' : Rd H2 d (.dK (l.map ikE)) := rd.elim (fun z => .inl (g2.sg _ _ z)) fun ⟨o, z⟩ => .inr ⟨o, g2.sg _ _ z⟩
    refine ⟨d, _, rfl, .inl ⟨_, Sum.inl i, rd', rfl, rfl⟩, ?_⟩
    rw [val_ik l i]
    have e : (if i ∈ l then some (V.bl true) else none).isSome = decide (i ∈ l) := by by_cases h : i ∈ l <;> simp [h]
    rw [e]
    exact f _ _ G2 H2 (g1.trans g2) (.bl _) q
theorem pwt_inK (hu : X.A.units + 1 < cLine) (ha : Pw X a δ fun d1 => Pw X b δ fun d2 => ∃ i l, d1 = .int i ∧ d2 = .ik l ∧ QT (decide (i ∈ l))) (hm : behindInMarks .In b = false := by rfl) : PwT X (.Compare a [.In] [b] pos) δ QT :=
  ⟨fun G H σ o k f => sT_of (pt_cmp (pc_din hu pe_s pe_s) hm) (sE_inK (Q := fun d => ∃ t, d = .bl t ∧ QT t) hu (ha.imp fun _ h => h.imp fun _ ⟨i, l, e1, e2, q⟩ => ⟨i, l, e1, e2, _, rfl, q⟩) o fun v d G' H' g r ⟨t, e, q⟩ => by subst e; cases r; exact ⟨t, rfl, f t G' H' g q⟩)⟩
/-- the value an int maps to -/
def getM : List (Int × Int) → Int → Option Int
  | [], _ => none
  | p :: r, i => if p.1 = i then some p.2 else getM r i
theorem val_imp (l : List (Int × Int)) (i : Int) : valV (l.map impE) (Sum.inl i : Key) = (getM l i).map V.int := by
  induction l with
  | nil => rfl
  | cons p r ih =>
    rw [List.map_cons]
    by_cases h : p.1 = i
    · rw [valV_pos (by rw [← h]; rfl)]
      simp [getM, h, impE]
    · rw [valV_neg (fun z => h (Sum.inl.inj z)), ih]
      simp [getM, h]
theorem pw_getM (hu : X.A.units + 1 < cLine) (ha : Pw X a δ fun d1 => Pw X b δ fun d2 => ∃ l i v, d1 = .imp l ∧ d2 = .int i ∧ getM l i = some v ∧ Q (.int v)) (hs : NoSl b := by exact fun _ _ => rfl) : Pw X (.Subscript a b pos) δ Q :=
  ⟨fun G H σ o k f => sE_of (pe_dget hu pe_s pe_s hs) (ha.run G H σ o _ fun v1 d1 G1 H1 g1 r1 hb => hb.run G1 H1 σ (o.grow g1) _ fun v2 d2 G2 H2 g2 r2 ⟨l, i, v, e1, e2, e3, q⟩ => by
    subst e1 e2
    cases r2
    cases r1 with
    | @imp d _ rd =>
      have rd' : Rd H2 d (.dK (l.map impE)) := rd.elim (fun z => .inl (g2.sg _ _ (g2.g _ _ z))) fun ⟨o, z⟩ => .inr ⟨o, g2.sg _ _ (g2.g _ _ z)⟩
      refine ⟨d, .int v, rfl, .inl ⟨_, Sum.inl i, rd', rfl, ?_⟩, f _ _ G2 H2 (g1.trans g2) (.int _) q⟩
      rw [val_imp, e3]; rfl)⟩

theorem pw_catT (ha : Pw X a δ fun d1 => Pw X b δ fun d2 => ∃ l1 l2, d1 = .tup l1 ∧ d2 = .tup l2 ∧ l1.length + l2.length ≤ sizeLine ∧ Q (.tup (l1 ++ l2))) : Pw X (.BinOp a .Add b pos) δ Q :=
  pw_op op_catA (P := fun d1 d2 d => ∃ l1 l2, d1 = .tup l1 ∧ d2 = .tup l2 ∧ l1.length + l2.length ≤ sizeLine ∧ d = .tup (l1 ++ l2)) (fun G H x y d1 d2 d s r1 r2 ⟨l1, l2, e1, e2, z, e⟩ k f => by
    subst e1 e2 e
    cases r1 with
    | @tup a1 vs1 _ h1 z1 t1 =>
      cases r2 with
      | @tup a2 vs2 _ h2 z2 t2 =>
        refine ⟨a1, a2, vs1, vs2, rfl, rfl, .of (s _ _ h1), .of (s _ _ h2), by rw [t1.length, t2.length]; exact z, fun e => ?_, fun e1 e2 => ?_, fun e1 e2 q hq => ?_⟩
        · subst e; cases t1
          exact f _ G H (.refl s) (.tup h2 z2 t2)
        · subst e2; cases t2
          rw [List.append_nil] at f
          exact f _ G H (.refl s) (.tup h1 z1 t1)
        · exact f _ _ _ (.new s hq) (.tup upd_same (by rw [List.length_append]; exact z) (((Gr.new s hq).dts t1).app ((Gr.new s hq).dts t2)))) (ha.imp fun _ h => h.imp fun _ ⟨l1, l2, e1, e2, z, q⟩ => ⟨_, ⟨l1, l2, e1, e2, z, rfl⟩, q⟩)
theorem pw_catL (ha : Pw X a δ fun d1 => Pw X b δ fun d2 => ∃ l1 l2, d1 = .lst l1 ∧ d2 = .lst l2 ∧ l1.length + l2.length ≤ sizeLine ∧ Q (.lst (l1 ++ l2))) : Pw X (.BinOp a .Add b pos) δ Q :=
  pw_op op_cat (P := fun d1 d2 d => ∃ l1 l2, d1 = .lst l1 ∧ d2 = .lst l2 ∧ l1.length + l2.length ≤ sizeLine ∧ d = .lst (l1 ++ l2)) (fun G H x y d1 d2 d s r1 r2 ⟨l1, l2, e1, e2, z, e⟩ k f => by
    subst e1 e2 e
    cases r1 with
    | @lst a1 vs1 _ h1 z1 t1 =>
      cases r2 with
      | @lst a2 vs2 _ h2 z2 t2 =>
        exact ⟨a1, a2, vs1, vs2, rfl, rfl, s _ _ h1, s _ _ h2, by rw [t1.length, t2.length]; exact z, fun q hq => f _ _ _ (.new s hq) (.lst upd_same (by rw [List.length_append]; exact z) (((Gr.new s hq).dts t1).app ((Gr.new s hq).dts t2)))⟩) (ha.imp fun _ h => h.imp fun _ ⟨l1, l2, e1, e2, z, q⟩ => ⟨_, ⟨l1, l2, e1, e2, z, rfl⟩, q⟩)

mutual
def pdOf : D → PyData
  | .non => .none | .bl b => .bool b | .int i => .int i | .str x => .str x
  | .tup l => .tuple (pdsOf l) | .lst l => .list (pdsOf l)
  | .tab _ => .none | .imp _ => .none | .ik _ => .none
def pdsOf : List D → List PyData
  | [] => []
  | d :: r => pdOf d :: pdsOf r
end
mutual
theorem dp_of {K : PySem.W.Frag} {G H : Hp} (s : Same G H) : ∀ {v d}, DT G v d → noDict d = true → Dp K H v (pdOf d)
  | _, _, .non, _ => by rw [pdOf]; exact .non
  | _, _, .bl b, _ => by rw [pdOf]; exact .bl b
  | _, _, .int i, _ => by rw [pdOf]; exact .int i
  | _, _, .str x, _ => by rw [pdOf]; exact .str x
  | _, _, .tup h z r, n => by rw [pdOf]; simp only [noDict] at n; exact .tup (.of (s _ _ h)) (dps_of s r n)
  | _, _, .lst h z r, n => by rw [pdOf]; simp only [noDict] at n; exact .lst (.of (s _ _ h)) (dps_of s r n)
  | _, _, .tab _, n => by simp [noDict] at n
  | _, _, .imp _, n => by simp [noDict] at n
  | _, _, .ik _, n => by simp [noDict] at n
theorem dps_of {K : PySem.W.Frag} {G H : Hp} (s : Same G H) : ∀ {vs ds}, DTs G vs ds → noDicts ds = true → DpAll K H vs (pdsOf ds)
  | _, _, .nil, _ => by rw [pdsOf]; exact .nil
  | _, _, .cons h r, n => by
    rw [pdsOf]
    simp only [noDicts, Bool.and_eq_true] at n
    exact .cons (dp_of s h n.1) (dps_of s r n.2)
end
/-- may be compared at depth -/
def dpOk (d : D) : Bool := noDict d && SeqAt.shaped (pdOf d)
def eqD (d e : D) : Bool := PyData.eqv (pdOf d) (pdOf e)
theorem opD_eqD {K : PySem.W.Frag} : OpD (rEqD K) (fun d e r => dpOk d = true ∧ dpOk e = true ∧ r = .bl (eqD d e)) := fun G H x y d1 d2 d s r1 r2 ⟨h1, h2, e⟩ k f => by
  subst e
  have h1' := Bool.and_eq_true_iff.mp h1
  have h2' := Bool.and_eq_true_iff.mp h2
  exact ⟨_, _, dp_of s r1 h1'.1, dp_of s r2 h2'.1, h1'.2, h2'.2, f _ G H (.refl s) (.bl _)⟩
theorem opD_neD {K : PySem.W.Frag} : OpD (rNeD K) (fun d e r => dpOk d = true ∧ dpOk e = true ∧ r = .bl (!eqD d e)) := fun G H x y d1 d2 d s r1 r2 ⟨h1, h2, e⟩ k f => by
  subst e
  have h1' := Bool.and_eq_true_iff.mp h1
  have h2' := Bool.and_eq_true_iff.mp h2
  exact ⟨_, _, dp_of s r1 h1'.1, dp_of s r2 h2'.1, h1'.2, h2'.2, f _ G H (.refl s) (.bl _)⟩
theorem pw_eqD (hu : X.A.units + 64 < cLine) (ha : Pw X a δ fun d1 => Pw X b δ fun d2 => dpOk d1 = true ∧ dpOk d2 = true ∧ Q (.bl (eqD d1 d2))) : Pw X (.Compare a [.Eq] [b] pos) δ Q := pw_cmp (op_eqD hu) opD_eqD (nomark _) (ha.imp fun _ h => h.imp fun _ ⟨h1, h2, q⟩ => ⟨_, ⟨h1, h2, rfl⟩, q⟩)
theorem pw_neD (hu : X.A.units + 64 < cLine) (ha : Pw X a δ fun d1 => Pw X b δ fun d2 => dpOk d1 = true ∧ dpOk d2 = true ∧ Q (.bl (!eqD d1 d2))) : Pw X (.Compare a [.NotEq] [b] pos) δ Q := pw_cmp (op_neD hu) opD_neD (nomark _) (ha.imp fun _ h => h.imp fun _ ⟨h1, h2, q⟩ => ⟨_, ⟨h1, h2, rfl⟩, q⟩)
theorem pwt_eqD (hu : X.A.units + 64 < cLine) (ha : Pw X a δ fun d1 => Pw X b δ fun d2 => dpOk d1 = true ∧ dpOk d2 = true ∧ QT (eqD d1 d2)) : PwT X (.Compare a [.Eq] [b] pos) δ QT := pwt_cmp (op_eqD hu) opD_eqD (nomark _) (ha.imp fun _ h => h.imp fun _ ⟨h1, h2, q⟩ => ⟨_, ⟨h1, h2, rfl⟩, q⟩)
theorem pwt_neD (hu : X.A.units + 64 < cLine) (ha : Pw X a δ fun d1 => Pw X b δ fun d2 => dpOk d1 = true ∧ dpOk d2 = true ∧ QT (!eqD d1 d2)) : PwT X (.Compare a [.NotEq] [b] pos) δ QT := pwt_cmp (op_neD hu) opD_neD (nomark _) (ha.imp fun _ h => h.imp fun _ ⟨h1, h2, q⟩ => ⟨_, ⟨h1, h2, rfl⟩, q⟩)
/-- is None -/
def isNon : D → Bool
  | .non => true | _ => false
theorem isNon_ok {G : Hp} {v : V} {d : D} (r : DT G v d) : decide (v = .non) = isNon d := by cases r <;> rfl
theorem pw_isN {j : Nat} (ha : Pw X a δ fun d => Q (.bl (isNon d))) : Pw X (.Compare a [.Is] [.Constant .none j p2] pos) δ Q :=
  pw_cmp op_isN (P := fun d1 d2 d => d2 = .non ∧ d = .bl (isNon d1)) (fun G H x y d1 d2 d s r1 r2 ⟨e1, e⟩ k f => by
    subst e1 e; cases r2
    exact ⟨rfl, by rw [isNon_ok r1]; exact f _ G H (.refl s) (.bl _)⟩) (nomark _) (ha.imp fun _ q => pw_non ⟨_, ⟨rfl, rfl⟩, q⟩)
theorem pwt_isN {j : Nat} (ha : Pw X a δ fun d => QT (isNon d)) : PwT X (.Compare a [.Is] [.Constant .none j p2] pos) δ QT :=
  pwt_cmp op_isN (P := fun d1 d2 d => d2 = .non ∧ d = .bl (isNon d1)) (fun G H x y d1 d2 d s r1 r2 ⟨e1, e⟩ k f => by
    subst e1 e; cases r2
    exact ⟨rfl, by rw [isNon_ok r1]; exact f _ G H (.refl s) (.bl _)⟩) (nomark _) (ha.imp fun _ q => pw_non ⟨_, ⟨rfl, rfl⟩, q⟩)
theorem pwt_notN {j : Nat} (ha : Pw X a δ fun d => QT (!isNon d)) : PwT X (.Compare a [.IsNot] [.Constant .none j p2] pos) δ QT :=
  pwt_cmp op_notN (P := fun d1 d2 d => d2 = .non ∧ d = .bl (!isNon d1)) (fun G H x y d1 d2 d s r1 r2 ⟨e1, e⟩ k f => by
    subst e1 e; cases r2
    exact ⟨rfl, by rw [isNon_ok r1]; exact f _ G H (.refl s) (.bl _)⟩) (nomark _) (ha.imp fun _ q => pw_non ⟨_, ⟨rfl, rfl⟩, q⟩)

theorem pw_lenO (i : Nat) {m : M} {n : Nat} (hm : X.mg "len" = none) (hN : X.N.findIdx? (fun y => y == x) = some i) (hv : Vis X.env.scope x) (he : δ[i]? = some (Cell.ow m)) (hl : (match m with | .tab l => some l.length | .imp l => some l.length | .ik l => some l.length | .lst l => some l.length | .deb .. => none | .ox _ => none | .at .. => none) = some n) (q : Q (.int (n : Int))) (hg : Gl X "len" := by rfl) (hd : (x == ("__debug__" : Str)) = false := by decide) (hcd : (x == ("__classdict__" : Str)) = false := by decide)
    (hs : starEach [.Name x p2] X.env = (false, eval (.Name x p2) X.env) :: starEach [] X.env := by rfl) (hpl : (backTo pos (starEach [] X.env)).any (·.1) = false := by rfl) : Pw X (.Call (.Name "len" p) [.Name x p2] [] pos) δ Q :=
  ⟨fun G H σ o k f => by
    have ob : Okb G (fun _ => none) G H σ δ := by
      obtain ⟨fl, s, nd, fr⟩ := o.sl
      exact ⟨⟨o.sg, Same.refl _, (fun b x q => nomatch q), fun _ _ _ _ => rfl⟩, fl, s, nd, fun a ha => ⟨fr a ha, rfl⟩⟩
    obtain ⟨a, g, h1, h2, _⟩ := ob.own he
    have fin := f (.int n) (.int n) G H (.refl o.sg) (.int _) q
    cases m with
    | lst l =>
      cases hl
      obtain ⟨_, _, vs, e, r⟩ := h2
      refine sE_of (pe_callB call_len_seq hg hm PySem.boot_len (pa_cons (pe_var (ix_get hN) hv hd hcd) pa_nil hs) (by decide) (by decide) hs hpl) ⟨_, h1, a, vs, rfl, .inl (.of e), ?_⟩
      rw [r.length]; exact fin
    | tab l =>
      cases hl
      obtain ⟨_, e⟩ := h2
      refine sE_of (pe_callB call_len_dT hg hm PySem.boot_len (pa_cons (pe_var (ix_get hN) hv hd hcd) pa_nil hs) (by decide) (by decide) hs hpl) ⟨_, h1, a, _, rfl, e, ?_⟩
      rw [List.length_map]; exact fin
    | imp l =>
      cases hl
      obtain ⟨_, e⟩ := h2
      refine sE_of (pe_callB call_lenD hg hm PySem.boot_len (pa_cons (pe_var (ix_get hN) hv hd hcd) pa_nil hs) (by decide) (by decide) hs hpl) ⟨_, h1, a, _, rfl, e, ?_⟩
      rw [List.length_map]; exact fin
    | ik l =>
      cases hl
      obtain ⟨_, e⟩ := h2
      refine sE_of (pe_callB call_lenD hg hm PySem.boot_len (pa_cons (pe_var (ix_get hN) hv hd hcd) pa_nil hs) (by decide) (by decide) hs hpl) ⟨_, h1, a, _, rfl, e, ?_⟩
      rw [List.length_map]; exact fin
    | deb C s t c => cases hl
    | ox S => cases hl
    | «at» b m => cases hl⟩
/-- list(d) of an owned dict of ints -/
theorem pw_listO (i : Nat) {l : List Int} (hc : X.calm = true) (hm : X.mg "list" = none) (hN : X.N.findIdx? (fun y => y == x) = some i) (hv : Vis X.env.scope x) (he : δ[i]? = some (Cell.ow (.ik l))) (hz : l.length ≤ sizeLine) (q : Q (.lst (l.map .int))) (hg : Gl X "list" := by rfl) (hd : (x == ("__debug__" : Str)) = false := by decide) (hcd : (x == ("__classdict__" : Str)) = false := by decide)
    (hs : starEach [.Name x p2] X.env = (false, eval (.Name x p2) X.env) :: starEach [] X.env := by rfl) (hpl : (backTo pos (starEach [] X.env)).any (·.1) = false := by rfl) : Pw X (.Call (.Name "list" p) [.Name x p2] [] pos) δ Q :=
  ⟨fun G H σ o k f => by
    have ob : Okb G (fun _ => none) G H σ δ := by
      obtain ⟨fl, s, nd, fr⟩ := o.sl
      exact ⟨⟨o.sg, Same.refl _, (fun b x q => nomatch q), fun _ _ _ _ => rfl⟩, fl, s, nd, fun a ha => ⟨fr a ha, rfl⟩⟩
    obtain ⟨a, g, h1, h2, _⟩ := ob.own he
    obtain ⟨_, e⟩ := h2
    refine sE_of (pe_callTy (call_list_dK hc) hg hm bt_list (pa_cons (pe_var (ix_get hN) hv hd hcd) pa_nil hs) (by decide) (by decide) hs hpl) ⟨_, h1, a, _, rfl, e, fun p hp => ?_⟩
    rw [List.map_map]
    have em : l.map ((fun kv : Key × V => kV kv.1) ∘ ikE) = l.map V.int := rfl
    rw [em]
    exact f _ _ _ _ (.new o.sg hp) (.lst upd_same (by rw [List.length_map]; exact hz) (dts_ints l)) q⟩
/-- sorted(d) of an owned dict of ints -/
theorem pw_sortedO (i : Nat) {l : List Int} (hc : X.calm = true) (hm : X.mg "sorted" = none) (hN : X.N.findIdx? (fun y => y == x) = some i) (hv : Vis X.env.scope x) (he : δ[i]? = some (Cell.ow (.ik l))) (hz : l.length < 64) {ys : List Int} (hp : ys.Perm l) (hs0 : ys.Pairwise (· ≤ ·)) (q : Q (.lst (ys.map .int))) (hg : Gl X "sorted" := by rfl) (hd : (x == ("__debug__" : Str)) = false := by decide) (hcd : (x == ("__classdict__" : Str)) = false := by decide)
    (hs : starEach [.Name x p2] X.env = (false, eval (.Name x p2) X.env) :: starEach [] X.env := by rfl) (hpl : (backTo pos (starEach [] X.env)).any (·.1) = false := by rfl) : Pw X (.Call (.Name "sorted" p) [.Name x p2] [] pos) δ Q :=
  ⟨fun G H σ o k f => by
    have ob : Okb G (fun _ => none) G H σ δ := by
      obtain ⟨fl, s, nd, fr⟩ := o.sl
      exact ⟨⟨o.sg, Same.refl _, (fun b x q => nomatch q), fun _ _ _ _ => rfl⟩, fl, s, nd, fun a ha => ⟨fr a ha, rfl⟩⟩
    obtain ⟨a, g, h1, h2, _⟩ := ob.own he
    obtain ⟨_, e⟩ := h2
    refine sE_of (pe_callB (call_sortedDI hc) hg hm bt_sorted (pa_cons (pe_var (ix_get hN) hv hd hcd) pa_nil hs) (by decide) (by decide) hs hpl) ⟨_, h1, a, _, l, rfl, .inl e, ?_, hz, fun zs p hzp hzs hpn => ?_⟩
    · rw [List.map_map]; rfl
    · have ez : zs = ys := (hzp.trans hp.symm).eq_of_pairwise (fun a b _ _ h1 h2 => Int.le_antisymm h1 h2) hzs hs0
      subst ez
      exact f _ _ _ _ (.new o.sg hpn) (.lst upd_same (by rw [List.length_map, hzp.length_eq]; exact le_line (by omega)) (dts_ints _)) q⟩
end

section
variable {X : Cx} {c : Expr} {rest body : List Stmt} {δ : List Cell} {N : List Cell → Prop} {R : D → List Cell → Prop} {pos : Pos}
theorem sd_while (I : Nat → List Cell → Prop) {n0 : Nat} (hp : PassesOwn (model X.prog X.w) X.A X.env X.xe) (h0 : I n0 δ)
    (hb : ∀ n δ', I n δ' → PwT X c δ' fun t => (t = true → Sd X body δ' (fun δ'' => ∃ m, m < n ∧ I m δ'') R) ∧ (t = false → Sd X rest δ' N R)) : Sd X (.While c body [] pos :: rest) δ N R :=
  sd_step (ps_while hp pt_s pss_s) fun G0 H0 G H σ o E f g => by
    refine ⟨fun m σ2 H2 => ∃ G2 δ2, Okb G0 H0 G2 H2 σ2 δ2 ∧ Same G G2 ∧ I m δ2, ⟨n0, G, δ, o, Same.refl _, h0⟩, ?_⟩
    rintro m σ2 H2 ⟨G2, δ2, o2, s2, I2⟩
    refine (hb m δ2 I2).run G2 H2 σ2 o2.ok _ fun t G3 H3 g3 ⟨h1, h2⟩ => ?_
    cases t with
    | true =>
      rw [if_pos rfl]
      refine ⟨fun σ' H' => ∃ m', m' < m ∧ ∃ G2 δ2, Okb G0 H0 G2 H' σ' δ2 ∧ Same G G2 ∧ I m' δ2, fun σ' H' h => h, ?_⟩
      obtain ⟨Hb, ob, back⟩ := (o2.grow g3).rebase
      refine (h1 rfl).run G3 Hb G3 H3 σ2 ob _ (fun G5 H5 σ5 δ5 o5 ⟨m', hm, n5⟩ => ?_) fun v d G5 H5 σ5 δ5 o5 r5 q5 => ?_
      · obtain ⟨k1, k2⟩ := back _ _ _ _ o5
        exact ⟨m', hm, G5, δ5, k1, s2.trans (g3.g.trans k2), n5⟩
      · exact g v d G5 H5 σ5 δ5 (back _ _ _ _ o5).1 r5 q5
    | false =>
      rw [if_neg Bool.false_ne_true]
      exact f G3 H3 σ2 δ2 (o2.grow g3) (h2 rfl)
end
end AL
namespace AL
open PySem PySem.Spec PyProof.Rows L2
section
variable {X : Cx} {elt tg iter tg1 iter1 : Expr} {ifs1 : List Expr} {scope : Scope} {pos : Pos} {δ : List Cell} {Q : D → Prop} {QL : List D → Prop}
theorem Sets.mo {G G' : Hp} (g : Same G G') {is : List Nat} {σ σ' : St} {δ δ' : List Cell} (s : Sets G is σ δ σ' δ') : Sets G' is σ δ σ' δ' := by
  induction s with
  | nil => exact .nil
  | cons h _ ih => exact .cons (h.mo (.of g)) ih
theorem flatMap_snoc {α β : Type} {f : α → List β} {l : List α} {i : Nat} {x : α} (h : l[i]? = some x) : (l.take (i + 1)).flatMap f = (l.take i).flatMap f ++ f x := by
  rw [List.take_add_one, h, List.flatMap_append]
  simp
theorem take_flat_len {α β : Type} {f : α → List β} : ∀ (l : List α) (i : Nat), ((l.take i).flatMap f).length ≤ (l.flatMap f).length
  | [], i => by simp
  | a :: r, 0 => by simp
  | a :: r, i + 1 => by
    have := take_flat_len (f := f) r i
    simp only [List.take_succ_cons, List.flatMap_cons, List.length_append]
    omega
theorem flat_len_lt {α β γ : Type} {f : α → List β} {g : α → β → Option γ} {l : List α} {i : Nat} {x : α} (h : l[i]? = some x) {j : Nat} (hj : j < (f x).length) :
    ((l.take i).flatMap fun x => (f x).filterMap (g x)).length + (((f x).take j).filterMap (g x)).length < (l.flatMap f).length := by
  have h1 : ((l.take i).flatMap fun x => (f x).filterMap (g x)).length ≤ ((l.take i).flatMap f).length := by
    generalize l.take i = m
    induction m with
    | nil => simp
    | cons a r ih =>
      have := List.length_filterMap_le (g a) (f a)
      simp only [List.flatMap_cons, List.length_append]
      omega
  have h2 := take_flat_len (f := f) l (i + 1)
  rw [flatMap_snoc h, List.length_append] at h2
  have h3 := List.length_filterMap_le (g x) ((f x).take j)
  rw [List.length_take] at h3
  omega
/-- an expression that gives a fresh list, which may be owned -/
structure PwXO (t : TE) (δ : List Cell) (Q : List AL.D → Prop) : Prop where
  run : ∀ (G H : Hp) (σ : St), Ok G H σ δ → ∀ k : VK, (∀ a vs l G' H', Gr G H G' H' → H a = none → G' a = none → H' a = some (.lst vs) → DTs G' vs l → l.length ≤ sizeLine → Q l → k (.ref a) H') → t σ H k
theorem PwXO.x {t : TE} {δ : List Cell} {Q : AL.D → Prop} (h : PwXO t δ fun l => Q (.lst l)) : PwX t δ Q :=
  ⟨fun G H σ o k f => h.run G H σ o k fun a vs l G' H' g ha na ea r z q => f (.ref a) (.lst l) _ H' (g.take ha ea na) (.lst upd_same z (r.mo (.of (same_new na)))) q⟩
theorem okb_own {G0 H0 G H G' H' : Hp} {σ : St} {δ : List Cell} (o : Okb G0 H0 G H σ δ) {a : Addr} {vs : List V} {l : List AL.D} {j : Nat} (g : Gr G H G' H') (ha : H a = none) (na : G' a = none) (ea : H' a = some (.lst vs)) (r : DTs G' vs l) (z : l.length ≤ sizeLine) (hj : j < δ.length) :
    Okb G0 H0 G' H' (σ.set j (some (.ref a))) (δ.set j (.ow (.lst l))) := by
  have g1 : Gr G H G' (fun b => if b = a then none else H' b) := ⟨fun b x e => by
      show (if b = a then none else H' b) = _
      rw [if_neg (ne_of_none e na)]; exact g.sg b x e, g.g, fun b x e => by
      show (if b = a then none else H' b) = _
      rw [if_neg (ne_of_none e ha)]; exact g.h b x e, g.nw⟩
  have e : H' = upd (fun b => if b = a then none else H' b) a (.lst vs) := by
    funext b
    by_cases hb : b = a
    · subst hb; rw [upd_same, ea]
    · rw [upd_ne hb, if_neg hb]
  have o1 := (o.grow g1).newO (i := j) (p := a) (u := .lst vs) (if_pos rfl) (by rw [o.ok.length]; exact hj) (m := .lst l) ⟨rfl, z, vs, upd_same, r⟩
  rw [← e] at o1
  exact o1
theorem sd_setO {st : Stmt} {rest : List Stmt} {N : List Cell → Prop} {R : AL.D → List Cell → Prop} {t : TE} {j : Nat} (hj : j < δ.length) (hps : PS X st (tAsg t (gName j))) (h : PwXO t δ fun l => Sd X rest (δ.set j (.ow (.lst l))) N R) : Sd X (st :: rest) δ N R :=
  sd_step hps fun G0 H0 G H σ o E f g => h.run G H σ o.ok _ fun a vs l G' H' g' ha na ea r z q => f G' H' _ _ (okb_own o g' ha na ea r z hj) q
theorem sd_lockO {st : Stmt} {rest : List Stmt} {N : List Cell → Prop} {R : AL.D → List Cell → Prop} (i : Nat) {l : List (Int × Int)} {t : TE} {j : Nat} (hj : j < δ.length) (he : δ[i]? = some (Cell.im (.tab l))) (hps : PS X st (tAsg t (gName j))) (h : PwXO t (δ.set i (.lk l)) fun l' => Sd X rest (δ.set j (.ow (.lst l'))) N R) : Sd X (st :: rest) δ N R :=
  ⟨fun G0 H0 G H σ o E f g => by
    obtain ⟨v, hv, r⟩ := o.ok.get he
    cases r with
    | @tab d _ rd =>
      rcases rd with e1 | ⟨od, e1⟩
      · refine sSs_of (pss_cons (ps_lock hps) pss_s) ⟨d, _, o.ok.sg _ _ e1, trivial, fun od => ?_⟩
        obtain ⟨o1, back⟩ := lock_core o.ok he hv e1 od
        refine h.run _ _ σ o1 _ fun a vs l' G' H' g' ha na ea r z q => ?_
        obtain ⟨b1, b2, b3⟩ := back _ _ g'
        have had : a ≠ d := fun w => by rw [w, upd_same] at ha; cases ha
        exact ⟨b1, q.run G0 H0 _ _ _ (okb_own o b2 (by rw [upd_ne had] at ha; exact ha) (by rw [upd_ne had]; exact na) (by rw [upd_ne had]; exact ea) (r.mo b3) z hj) E f g⟩
      · obtain ⟨fl, s, nd, fr⟩ := o.ok.sl
        refine sSs_of (pss_cons hps pss_s) ?_
        exact h.run G H σ ⟨o.ok.sg, fl, s.lock hv e1 ⟨_, he⟩, nd, fr⟩ _ fun a vs l' G' H' g' ha na ea r z q => q.run G0 H0 _ _ _ (okb_own o g' ha na ea r z hj) E f g⟩
def lc2T (X : Cx) (elt tg iter tg1 iter1 : Expr) (ifs1 : List Expr) (scope : Scope) (own : List (Str × Nat)) (vs1 : List Nat) : TE :=
  tLc2 (sI X tg iter) (fun v σ H K => ∀ s0 H0 C cl fp, sG (X.blk s0 H0 scope (compEnvC scope cl C X.env) fp) tg v σ H K) tYes
    (fun σ H R => ∀ s0 H0 C cl fp, sI (X.blk s0 H0 scope (compEnvC scope cl C X.env) fp) tg1 iter1 σ H R) (fun v σ H K => ∀ s0 H0 C cl fp, sG (X.blk s0 H0 scope (compEnvC scope cl C X.env) fp) tg1 v σ H K)
    (fun σ H K => ∀ s0 H0 C cl fp, sTs (X.blk s0 H0 scope (compEnvC scope cl C X.env) fp) ifs1 σ H K) (fun σ H K => ∀ s0 H0 C cl fp, sE (X.blk s0 H0 scope (compEnvC scope cl C X.env) fp) elt σ H K) (own.map (·.2)) vs1
theorem pe_lc2T {own : List (Str × Nat)} {vs1 : List Nat} (hc : X.calm = true) (hN : X.N.Nodup) (ok : BlkOk X.N X.env.scope scope own) (hv : ∀ i ∈ vs1, i ∈ own.map (·.2)) (hs : ∀ x, foldedSetIterable iter X.env x = pure x) (hs1 : ∀ env x, foldedSetIterable iter1 env x = pure x) :
    PE X (.ListComp elt [⟨tg, iter, [], 0⟩, ⟨tg1, iter1, ifs1, 0⟩] scope pos) (lc2T X elt tg iter tg1 iter1 ifs1 scope own vs1) :=
  pe_lc2 (own := own) (vs1 := vs1) hc hN pi_s ok hv
      (fun s0 H0 C cl fp => ⟨fun pins s _ _ _ u _ I r h => h s0 H0 C cl fp pins s u I r⟩) (fun s0 H0 C cl fp => pts_nil)
      (fun s0 H0 C cl fp => ⟨fun pins s σ H R I h => h s0 H0 C cl fp pins s I⟩)
      (fun s0 H0 C cl fp => ⟨fun pins s _ _ _ u _ I r h => h s0 H0 C cl fp pins s u I r⟩) (fun s0 H0 C cl fp => ⟨fun pins s σ H Q I h => pts_s.run pins s σ H Q I (h s0 H0 C cl fp)⟩) (fun s0 H0 C cl fp => ⟨fun pins s _ _ _ I h => h s0 H0 C cl fp pins s I⟩) hs hs1
theorem ps_lc2T {own : List (Str × Nat)} {vs1 : List Nat} {i : Nat} {y : Str} {py spos : Pos} (hc : X.calm = true) (hN : X.N.Nodup) (ok : BlkOk X.N X.env.scope scope own) (hv : ∀ i ∈ vs1, i ∈ own.map (·.2)) (hy : X.N[i]? = some y) (hyl : X.env.scope.names.lookup y = some .local)
    (hsw : swapsWith (.ListComp elt [⟨tg, iter, [], 0⟩, ⟨tg1, iter1, ifs1, 0⟩] scope pos) (some (.Name y py)) spos.line X.env = pure true) (hs : ∀ x, foldedSetIterable iter X.env x = pure x) (hs1 : ∀ env x, foldedSetIterable iter1 env x = pure x) :
    PS X (.Assign [.Name y py] (.ListComp elt [⟨tg, iter, [], 0⟩, ⟨tg1, iter1, ifs1, 0⟩] scope pos) spos) (tAsg (lc2T X elt tg iter tg1 iter1 ifs1 scope own vs1) (gName i)) :=
  ps_setLc2 (own := own) (vs1 := vs1) hc hN hy hyl hsw pi_s ok hv
      (fun s0 H0 C cl fp => ⟨fun pins s _ _ _ u _ I r h => h s0 H0 C cl fp pins s u I r⟩) (fun s0 H0 C cl fp => pts_nil)
      (fun s0 H0 C cl fp => ⟨fun pins s σ H R I h => h s0 H0 C cl fp pins s I⟩)
      (fun s0 H0 C cl fp => ⟨fun pins s _ _ _ u _ I r h => h s0 H0 C cl fp pins s u I r⟩) (fun s0 H0 C cl fp => ⟨fun pins s σ H Q I h => pts_s.run pins s σ H Q I (h s0 H0 C cl fp)⟩) (fun s0 H0 C cl fp => ⟨fun pins s _ _ _ I h => h s0 H0 C cl fp pins s I⟩) hs hs1
/-- [elt for tg in iter for tg1 in iter1 if ..] -/
theorem lc2o {own : List (Str × Nat)} {vs1 : List Nat}
    (hi : PwI X tg iter δ fun ds => ∃ (α β : Type) (xs : List α) (enc : α → D) (ys : α → List β) (enc1 : β → D) (f : α → β → Option D) (is is1 : List Nat), ds = xs.map enc ∧ (∀ i ∈ is, i ∈ own.map (·.2)) ∧ (∀ i ∈ is1, i ∈ vs1) ∧ (xs.flatMap ys).length ≤ sizeLine ∧
      (∀ x ∈ xs, BlkAll X scope fun Y => PwG Y tg (enc x) (wipeC δ (own.map (·.2))) is fun δ2 => BlkAll X scope fun Y1 => PwI Y1 tg1 iter1 δ2 fun ds1 => ds1 = (ys x).map enc1 ∧
        ∀ y ∈ ys x, BlkAll X scope fun Y2 => PwG Y2 tg1 (enc1 y) (wipeC δ2 vs1) is1 fun δ3 => BlkAll X scope fun Y3 => PwTs Y3 ifs1 δ3 fun b => (b = false → f x y = none) ∧ (b = true → BlkAll X scope fun Y4 => Pw Y4 elt δ3 fun d => f x y = some d)) ∧
      QL (xs.flatMap fun x => (ys x).filterMap (f x))) : PwXO (lc2T X elt tg iter tg1 iter1 ifs1 scope own vs1) δ QL :=
  ⟨fun G H σ o k kf => by
    unfold lc2T tLc2
    refine hi.run G H σ o _ fun J G1 H1 ds g1 wk hq D hD => ?_
    obtain ⟨α, β, xs, enc, ys, enc1, f, is, is1, rfl, his, his1, hlen0, hel, q⟩ := hq
    have o1 := o.grow g1
    have hlen : (xs.map enc).length = xs.length := List.length_map ..
    let F : List α → List AL.D := fun l => l.flatMap fun x => (ys x).filterMap (f x)
    refine ⟨fun i m H2 => m = xs.length - i ∧ i ≤ xs.length ∧ ∃ G2 acc, Gr G1 H1 G2 H2 ∧ G2 D = none ∧ H2 D = some (.lst acc) ∧ DTs G2 acc (F (xs.take i)), ⟨xs.length, by simp, Nat.zero_le _, G1, [], .side g1.sg hD, g1.sg.free hD, upd_same, .nil⟩, ?_⟩
    rintro i m H2 ⟨rfl, hi2, G2, acc, g2, nD, eD, r2⟩
    by_cases hlt : i < xs.length
    · refine .inr ⟨wk.go i H2 (g2.g.trans g2.sg) (by rw [hlen]; exact hlt), fun H3 => i + 1 ≤ xs.length ∧ ∃ G2 acc, Gr G1 H1 G2 H3 ∧ G2 D = none ∧ H3 D = some (.lst acc) ∧ DTs G2 acc (F (xs.take (i + 1))), fun H3 ⟨h1, h2⟩ => ⟨xs.length - (i + 1), by omega, rfl, h1, h2⟩, fun x H3 y => ?_⟩
      have o2 : Ok G2 H2 σ δ := o1.grow g2
      obtain ⟨G3, d, hd, g3, rx⟩ := wk.yld i H2 x H3 (g2.g.trans g2.sg) (by rw [hlen]; exact hlt) y G2 g2.sg g2.g
      have hxi : xs[i]? = some xs[i] := List.getElem?_eq_getElem hlt
      rw [List.getElem?_map, hxi] at hd
      cases hd
      have nD3 : G3 D = none := (g3.nw D _ eD rfl).trans nD
      intro s0 H0 C cl fp
      refine (hel xs[i] (List.getElem_mem hlt) s0 H0 C cl fp).run G3 H3 _ x g3.sg rx _ fun σ4 δ4 s4 h4 => ?_
      have w5 : wipe (wipe σ (own.map (·.2))) (own.map (·.2)) = wipe σ (own.map (·.2)) := wipe_twice fun _ h => h
      refine ⟨by rw [s4.wipe his, w5], ?_⟩
      have o4 : Ok G3 H3 σ4 δ4 := s4.ok ((o2.grow g3).wiped _)
      unfold tYes
      simp only [if_true]
      intro s1 H1' C1 cl1 fp1
      refine (h4 s1 H1' C1 cl1 fp1).run G3 H3 σ4 o4 _ fun J1 G5 H5 ds1 g5 wk1 ⟨e1, hin⟩ => ?_
      subst e1
      have hlen1 : ((ys xs[i]).map enc1).length = (ys xs[i]).length := List.length_map ..
      have g15 := g2.trans (g3.trans g5)
      have eD5 : H5 D = some (.lst acc) := g5.h _ _ (g3.h _ _ eD)
      have nD5 : G5 D = none := (g5.nw D _ (g3.h _ _ eD) rfl).trans nD3
      have o5 := o4.grow g5
      refine ⟨fun j m H6 => m = (ys xs[i]).length - j ∧ j ≤ (ys xs[i]).length ∧ ∃ G6 acc, Gr G1 H1 G6 H6 ∧ Same G5 G6 ∧ G6 D = none ∧ H6 D = some (.lst acc) ∧ DTs G6 acc (F (xs.take i) ++ ((ys xs[i]).take j).filterMap (f xs[i])),
        ⟨(ys xs[i]).length, by simp, Nat.zero_le _, G5, acc, g15, Same.refl _, nD5, eD5, by simpa using (g3.trans g5).dts r2⟩, ?_⟩
      rintro j m H6 ⟨rfl, hj2, G6, acc6, g6, s6, nD6, eD6, r6⟩
      have o6 : Ok G6 H6 σ4 δ4 := (s4.mo (g5.g.trans s6)).ok ((o1.grow g6).wiped _)
      by_cases hjt : j < (ys xs[i]).length
      · refine .inr ⟨wk1.go j H6 (s6.trans g6.sg) (by rw [hlen1]; exact hjt), fun H7 => j + 1 ≤ (ys xs[i]).length ∧ ∃ G6 acc, Gr G1 H1 G6 H7 ∧ Same G5 G6 ∧ G6 D = none ∧ H7 D = some (.lst acc) ∧ DTs G6 acc (F (xs.take i) ++ ((ys xs[i]).take (j + 1)).filterMap (f xs[i])),
          fun H7 ⟨h1, h2⟩ => ⟨(ys xs[i]).length - (j + 1), by omega, rfl, h1, h2⟩, fun x1 H7 y1 => ?_⟩
        obtain ⟨G7, d7, hd7, g7, rx7⟩ := wk1.yld j H6 x1 H7 (s6.trans g6.sg) (by rw [hlen1]; exact hjt) y1 G6 g6.sg s6
        have hyj : (ys xs[i])[j]? = some (ys xs[i])[j] := List.getElem?_eq_getElem hjt
        rw [List.getElem?_map, hyj] at hd7
        cases hd7
        have nD7 : G7 D = none := (g7.nw D _ eD6 rfl).trans nD6
        intro s2 H2' C2 cl2 fp2
        refine (hin (ys xs[i])[j] (List.getElem_mem hjt) s2 H2' C2 cl2 fp2).run G7 H7 _ x1 g7.sg rx7 _ fun σ8 δ8 s8 h8 => ?_
        have w8 : wipe (wipe σ4 vs1) vs1 = wipe σ4 vs1 := wipe_twice fun _ h => h
        have o8 : Ok G7 H7 σ8 δ8 := s8.ok ((o6.grow g7).wiped _)
        refine ⟨by rw [s8.wipe his1, w8], fun s3 H3' C3 cl3 fp3 => ?_⟩
        refine (h8 s3 H3' C3 cl3 fp3).run G7 H7 σ8 o8 _ fun b G9 H9 g9 hb => ?_
        have ht := filterMap_snoc (f := f xs[i]) hyj
        have g69 := g7.trans g9
        have eD9 : H9 D = some (.lst acc6) := g9.h _ _ (g7.h _ _ eD6)
        have nD9 : G9 D = none := (g9.nw D _ (g7.h _ _ eD6) rfl).trans nD7
        cases b with
        | false =>
          rw [if_neg Bool.false_ne_true]
          refine ⟨hjt, G9, acc6, g6.trans g69, s6.trans g69.g, nD9, eD9, ?_⟩
          rw [ht, hb.1 rfl]
          simpa using g69.dts r6
        | true =>
          rw [if_pos rfl]
          intro s5 H5' C5 cl5 fp5
          refine (hb.2 rfl s5 H5' C5 cl5 fp5).run G9 H9 σ8 (o8.grow g9) _ fun v d G10 H10 g10 rv hf => ?_
          have g610 := g69.trans g10
          have nD10 : G10 D = none := (g10.nw D _ eD9 rfl).trans nD9
          have eD10 : H10 D = some (.lst acc6) := g10.h _ _ eD9
          have g1D := (g6.trans g610).put hD (o := .lst (acc6 ++ [v])) nD10
          refine ⟨acc6, eD10, ?_, hjt, G10, acc6 ++ [v], g1D, s6.trans g610.g, nD10, upd_same, ?_⟩
          · rw [r6.length, List.length_append]
            have := flat_len_lt (g := f) hxi hjt
            show ((xs.take i).flatMap fun x => (ys x).filterMap (f x)).length + _ < _
            omega
          · rw [ht, hf]
            have := (g610.dts r6).app (.cons rv .nil)
            simpa using this
      · have e : j = (ys xs[i]).length := by omega
        subst e
        refine .inl ⟨by have := wk1.stop H6 (s6.trans g6.sg); rwa [hlen1] at this, hlt, G6, acc6, g6, nD6, eD6, ?_⟩
        rw [List.take_length] at r6
        show DTs G6 acc6 ((xs.take (i + 1)).flatMap _)
        rw [flatMap_snoc hxi]
        exact r6
    · have e : i = xs.length := by omega
      subst e
      refine .inl ⟨by have := wk.stop H2 (g2.g.trans g2.sg); rwa [hlen] at this, ?_⟩
      rw [List.take_length] at r2
      have z : (F xs).length ≤ sizeLine := by
        refine Nat.le_trans ?_ hlen0
        show (xs.flatMap fun x => (ys x).filterMap (f x)).length ≤ _
        generalize xs = l
        induction l with
        | nil => simp
        | cons a r ih =>
          have := List.length_filterMap_le (f a) (ys a)
          simp only [List.flatMap_cons, List.length_append]
          omega
      exact kf D acc _ G2 H2 (g1.trans g2) (g1.h.free hD) nD eD r2 z q⟩
theorem lc2x {own : List (Str × Nat)} {vs1 : List Nat}
    (hi : PwI X tg iter δ fun ds => ∃ (α β : Type) (xs : List α) (enc : α → D) (ys : α → List β) (enc1 : β → D) (f : α → β → Option D) (is is1 : List Nat), ds = xs.map enc ∧ (∀ i ∈ is, i ∈ own.map (·.2)) ∧ (∀ i ∈ is1, i ∈ vs1) ∧ (xs.flatMap ys).length ≤ sizeLine ∧
      (∀ x ∈ xs, BlkAll X scope fun Y => PwG Y tg (enc x) (wipeC δ (own.map (·.2))) is fun δ2 => BlkAll X scope fun Y1 => PwI Y1 tg1 iter1 δ2 fun ds1 => ds1 = (ys x).map enc1 ∧
        ∀ y ∈ ys x, BlkAll X scope fun Y2 => PwG Y2 tg1 (enc1 y) (wipeC δ2 vs1) is1 fun δ3 => BlkAll X scope fun Y3 => PwTs Y3 ifs1 δ3 fun b => (b = false → f x y = none) ∧ (b = true → BlkAll X scope fun Y4 => Pw Y4 elt δ3 fun d => f x y = some d)) ∧
      Q (.lst (xs.flatMap fun x => (ys x).filterMap (f x)))) : PwX (lc2T X elt tg iter tg1 iter1 ifs1 scope own vs1) δ Q := (lc2o (QL := fun l => Q (.lst l)) hi).x
theorem pw_lc2 {own : List (Str × Nat)} {vs1 : List Nat} (hc : X.calm = true) (hN : X.N.Nodup) (ok : BlkOk X.N X.env.scope scope own) (hv : ∀ i ∈ vs1, i ∈ own.map (·.2))
    (hi : PwI X tg iter δ fun ds => ∃ (α β : Type) (xs : List α) (enc : α → D) (ys : α → List β) (enc1 : β → D) (f : α → β → Option D) (is is1 : List Nat), ds = xs.map enc ∧ (∀ i ∈ is, i ∈ own.map (·.2)) ∧ (∀ i ∈ is1, i ∈ vs1) ∧ (xs.flatMap ys).length ≤ sizeLine ∧
      (∀ x ∈ xs, BlkAll X scope fun Y => PwG Y tg (enc x) (wipeC δ (own.map (·.2))) is fun δ2 => BlkAll X scope fun Y1 => PwI Y1 tg1 iter1 δ2 fun ds1 => ds1 = (ys x).map enc1 ∧
        ∀ y ∈ ys x, BlkAll X scope fun Y2 => PwG Y2 tg1 (enc1 y) (wipeC δ2 vs1) is1 fun δ3 => BlkAll X scope fun Y3 => PwTs Y3 ifs1 δ3 fun b => (b = false → f x y = none) ∧ (b = true → BlkAll X scope fun Y4 => Pw Y4 elt δ3 fun d => f x y = some d)) ∧
      Q (.lst (xs.flatMap fun x => (ys x).filterMap (f x))))
    (hs : ∀ x, foldedSetIterable iter X.env x = pure x := by intro _; rfl) (hs1 : ∀ env x, foldedSetIterable iter1 env x = pure x := by intro _ _; rfl) : Pw X (.ListComp elt [⟨tg, iter, [], 0⟩, ⟨tg1, iter1, ifs1, 0⟩] scope pos) δ Q := pwx_pe (pe_lc2T hc hN ok hv hs hs1) (lc2x hi)
end
end AL
namespace AL
open PySem PySem.Spec PyProof.Rows L2

def leafD : D → Leaf
  | .int i => .num i | .bl b => .num (if b then 1 else 0) | .str x => .text x | _ => .none
theorem leaf_is {P : Program} {w : World} {G : Hp} {v : V} {d : D} {u : Value} (r : DT G v d) (f : flatD d = true) (rv : RelV v u) : (leafKind P w).is (leafD d) u = true := by
  cases r with
  | non => obtain rfl : u = .none := rv; exact leaf_none
  | bl b => obtain rfl : u = .bool b := rv; cases b <;> first | exact leaf_true | exact leaf_false
  | int i => obtain ⟨t, rfl⟩ := rv; exact leaf_int i t
  | str x => obtain ⟨t, rfl⟩ := rv; exact leaf_str x t
  | tup _ _ _ => simp [flatD, toV] at f
  | lst _ _ _ => simp [flatD, toV] at f
  | tab _ => simp [flatD, toV] at f
  | imp _ => simp [flatD, toV] at f
  | ik _ => simp [flatD, toV] at f
theorem leaves_are {P : Program} {w : World} {G : Hp} : ∀ {vs : List V} {ds : List D} {us : List Value}, DTs G vs ds → ds.all flatD = true → Vals vs us → ItemsAre (leafKind P w) (ds.map leafD) us
  | _, _, _, .nil, _, r => by cases r; exact .nil
  | _, _, _, .cons h t, f, r => by
    rw [List.all_cons, Bool.and_eq_true] at f
    cases r with
    | cons r1 r2 => exact .cons (leaf_is h f.1 r1) (leaves_are t f.2 r2)
abbrev LX := List Leaf × Addr × Value
/-- the object of a dict with the keys xs -/
def KdH (P : Program) (w : World) (a : Addr) (xs : List LX) : Heap → Prop := fun h => ∃ o es ep, h.get? a = some o ∧ o.ExactDict ∧ o.data = .dict es ep ∧ es.toList = xs.map (entryOfKey (tupleKind (leafKind P w))) ∧ (xs.map (·.1)).Nodup ∧ (a == sysModules) = false ∧ xs.length ≤ sizeLine
def KdO (P : Program) (w : World) (ks : List (List D)) (a : Addr) (u : HO) (ps : List (Addr × D)) : Prop := ∃ xs : List LX, u = .ext (KdH P w a xs) ∧ xs.map (·.1) = ks.map (·.map leafD) ∧ ps = (xs.map (·.2.1)).zip (ks.map D.tup) ∧ (∀ k ∈ ks, k.all flatD = true)
theorem kd_ok {P : Program} {w : World} {H : Hp} {h : Heap} {a : Addr} {xs : List LX} (x : KdH P w a xs h) : ObjOk P w H h a (.ext (KdH P w a xs)) := by
  refine ⟨x, ?_, fun h1 h2 ⟨o, es, ep, e1, e2⟩ k => ⟨o, es, ep, k o e1, e2⟩⟩
  obtain ⟨o, _, _, e, _⟩ := x
  exact ⟨o, e⟩
/-- the keys' tuples are tracked -/
def KeysIn (P : Program) (w : World) (H : Hp) (xs : List LX) : Prop := ∀ x ∈ xs, ∃ vs, H x.2.1 = some (.tup vs) ∧ ∀ its, Vals vs its → ItemsAre (leafKind P w) x.1 its
theorem key_in {P : Program} {w : World} {H : Hp} {h : Heap} {b : Addr} {k : List Leaf} {vs : List V} (ok : HOk P w H h) (e : H b = some (.tup vs)) (z : ∀ its, Vals vs its → ItemsAre (leafKind P w) k its) : (tupleKind (leafKind P w)).is h k b := by
  obtain ⟨_, its, r, o, h1, h2, n, h3⟩ := (show ObjOk P w H h b (.tup vs) from ok b _ e)
  exact ⟨o, its.toArray, n, h1, h2, h3, by simpa using z its r⟩
theorem kd_dict {P : Program} {w : World} {H : Hp} {h : Heap} {a : Addr} {xs : List LX} (ok : HOk P w H h) (e : H a = some (.ext (KdH P w a xs))) (ki : KeysIn P w H xs) : h.DictOfH (tupleKind (leafKind P w)) a xs ∧ (a == sysModules) = false ∧ xs.length ≤ sizeLine := by
  obtain ⟨⟨o, es, ep, h1, h2, h3, h4, h5, h6, h7⟩, _, _⟩ := (show ObjOk P w H h a (.ext (KdH P w a xs)) from ok a _ e)
  exact ⟨⟨o, es, ep, h1, h2, h3, h4, fun x hx => let ⟨vs, e1, e2⟩ := ki x hx; key_in ok e1 e2, h5⟩, h6, h7⟩
/-- {} -/
def tKNew (P : Program) (w : World) : TE := fun _ H Q => ∀ p, H p = none → Q (.ref p) (upd H p (.ext (KdH P w p [])))
theorem pe_knew {X : Cx} {pos : Pos} : PE X (.Dict [] [] pos) (tKNew X.prog X.w) := ⟨fun pins s σ H Q I h =>
  wpAny_Dict_empty ⟨.ref s.heap.objs.size, _, I.laid (a := s.heap.objs.size) (o := .ext (KdH X.prog X.w s.heap.objs.size [])) (t' := s.toks) (fun _ _ q => Heap.get?_push_of_some _ q) (Nat.le_refl _)
    (kd_ok ⟨_, #[], 0, Heap.get?_push_size _ rfl, ⟨rfl, rfl, rfl⟩, rfl, rfl, List.nodup_nil, beq_eq_false_iff_ne.mpr (Ne.symm (Nat.ne_of_lt I.big)), Nat.zero_le _⟩), rfl, h _ (I.hok.fresh (Nat.le_refl _))⟩⟩
theorem stored_len {K : Type} [DecidableEq K] (xs : List (K × Addr × Value)) (k : K) (a : Addr) (v : Value) : (storedH xs k a v).length ≤ xs.length + 1 := by
  unfold storedH
  split
  · simp
  · simp
/-- x[e] = v -/
def tKPut (P : Program) (w : World) (td ty tv : TE) : TS := fun E σ H => tv σ H fun v H1 => td σ H1 fun x H2 => ty σ H2 fun y H3 => ∃ a b xs k vs, x = .ref a ∧ y = .ref b ∧ H3 a = some (.ext (KdH P w a xs)) ∧ KeysIn P w H3 xs ∧ H3 b = some (.tup vs) ∧ (∀ its, Vals vs its → ItemsAre (leafKind P w) k its) ∧
  xs.length < sizeLine ∧ ∀ r, E.nx σ (upd H3 a (.ext (KdH P w a (storedH xs k b r))))
theorem ps_kput {X : Cx} {o i value : Expr} {pos pos' : Pos} {td ty tv : TE} (hu : X.A.units + 1 < cLine) (ho : PE X o td) (hi : PE X i ty) (hv : PE X value tv) (hs : swapsWith value (some (.Subscript o i pos')) pos.line X.env = pure false) :
    PS X (.Assign [.Subscript o i pos'] value pos) (tKPut X.prog X.w td ty tv) := by
  refine ⟨fun pins s σ H D I h => ?_⟩
  refine wpAny_Assign_Subscript (thn (hv.run pins s σ H _ I h) fun r s1 ⟨v, H1, I1, rv, q1⟩ => thn (ho.run pins s1 σ H1 _ I1 q1) fun u s2 ⟨x, H2, I2, rx, q2⟩ => thn (hi.run pins s2 σ H2 _ I2 q2) fun iv s3 ⟨y, H3, I3, ry, a, b, xs, k, vs, ex, ey, ea, ki, eb, kb, hz, q3⟩ => ?_) hs
  subst ex ey
  obtain rfl : u = Value.ref a := rx
  obtain rfl : iv = Value.ref b := ry
  obtain ⟨dd, hd, hl⟩ := kd_dict I3.hok ea ki
  refine wpAny_setItem_heap (hsz := hl) (tupleKind_room_in1 hu) (key_in I3.hok eb kb) dd fun h' dd' hs => ⟨σ, _, ?_, q3 r⟩
  obtain ⟨q, es, ep, hq, h2, h3, h4, _, h5⟩ := dd'
  exact d_write I3 (by rw [ea]; exact True.intro) hs ⟨q, hq⟩ (kd_ok ⟨q, es, ep, hq, h2, h3, h4, h5, hd, Nat.le_trans (stored_len _ _ _ _) hz⟩)
theorem entries_get {P : Program} {w : World} {es : Array DictEntry} {xs : List LX} (h : es.toList = xs.map (entryOfKey (tupleKind (leafKind P w)))) {j : Nat} {en : DictEntry} (e : es[j]? = some en) : ∃ x, xs[j]? = some x ∧ en.key = .ref x.2.1 := by
  rw [← Array.getElem?_toList, h, List.getElem?_map] at e
  cases hx : xs[j]? with
  | none => rw [hx] at e; cases e
  | some x => rw [hx] at e; cases e; exact ⟨x, rfl, rfl⟩
/-- list(d) -/
def rKList (P : Program) (w : World) : List V → Hp → VK → Prop := fun xs H Q => ∃ p ys, xs = [.ref p] ∧ H p = some (.ext (KdH P w p ys)) ∧ ∀ q, H q = none → Q (.ref q) (upd H q (.lst (ys.map fun x => V.ref x.2.1)))
theorem call_list_kd {X : Cx} (hc : X.calm = true) : CallR X (.type "list") (rKList X.prog X.w) := by
  intro pins s σ H xs us Q I r h
  obtain ⟨p, ys, e, hk, q⟩ := h
  subst e
  obtain ⟨u, eu, rx⟩ := vals1 r
  subst eu
  obtain rfl : u = Value.ref p := rx
  obtain ⟨⟨o, es, ep, h1, h2, h3, h4, h5, lo, z⟩, _, _⟩ := (show ObjOk X.prog X.w H s.heap p (.ext (KdH X.prog X.w p ys)) from I.hok p _ hk)
  have hl : es.size = ys.length := by rw [← Array.length_toList, h4, List.length_map]
  refine PySem.W.kdl_call (kdl_raw lo h2 h3) (I.ok.hd hc) h1 (by rw [hl]; exact z) fun h' tk acc' c' hkeep hS hacc => ?_
  refine ⟨.ref s.heap.objs.size, upd H s.heap.objs.size (.lst (ys.map fun x => V.ref x.2.1)), I.laid hkeep (Nat.le_refl _) (show ObjOk X.prog X.w _ _ _ (.lst (ys.map fun x => V.ref x.2.1)) from ⟨?_, acc'.toList, c', ?_, ?_⟩), rfl, q _ (I.hok.fresh (Nat.le_refl _))⟩
  · rw [List.length_map]; exact z
  · have el : acc'.toList.length = acc'.size := by simp
    refine vals_of_at (by rw [List.length_map, el, hacc.1, hl]) fun j x w h1 h2 => ?_
    obtain ⟨en, hen, hi⟩ := hacc.2 j w (by rw [← Array.getElem?_toList]; exact h2)
    obtain ⟨x', hx', ek⟩ := entries_get h4 hen
    rw [List.getElem?_map, hx'] at h1
    cases h1
    rw [hi, ek]; rfl
  · rw [Array.toArray_toList]; exact hS

section
variable {X : Cx} {e : Expr} {rest : List Stmt} {δ : List Cell} {N : List Cell → Prop} {R : D → List Cell → Prop} {Q : D → Prop} {pos p p2 : Pos} {x : Str}
theorem sd_newX {i : Nat} (hN : X.N.Nodup) (hi : X.N.findIdx? (fun y => y == x) = some i) (hx : Loc X.env.scope x) (hl : i < δ.length) (h : Sd X rest (δ.set i (.ow (.ox (KdO X.prog X.w [])))) N R) (hs : swapsWith (.Dict [] [] p2) (some (.Name x p)) pos.line X.env = pure false := by rfl)
    (hf : X.fn x = true ∨ X.env.scope.names.lookup x = some .local := by first | exact .inl rfl | exact .inr rfl) : Sd X (.Assign [.Name x p] (.Dict [] [] p2) pos :: rest) δ N R :=
  sd_step (ps_set hN (ix_get hi) hx pe_knew hs hf) fun G0 H0 G H σ o E f g => fun q hq => f G _ _ _ (o.newO hq (by rw [o.ok.length]; exact hl) (show Own G (upd H q (.ext (KdH X.prog X.w q []))) q (.ox (KdO X.prog X.w [])) [q] from ⟨rfl, _, [], ⟨[], rfl, rfl, rfl, fun k hk => nomatch hk⟩, rfl, upd_same, fun p hp => nomatch hp⟩)) h
def putX (l : List (List D)) (k : List D) : List (List D) := if k.map leafD ∈ l.map (·.map leafD) then l else l ++ [k]
theorem stored_keys (xs : List LX) (k : List Leaf) (b : Addr) (r : Value) : (storedH xs k b r).map (fun x => (x.1, x.2.1)) = if k ∈ xs.map (·.1) then xs.map (fun x => (x.1, x.2.1)) else xs.map (fun x => (x.1, x.2.1)) ++ [(k, b)] := by
  unfold storedH
  have hm : (atKey xs k).isSome = true ↔ k ∈ xs.map (·.1) := by
    unfold atKey
    rw [Option.isSome_map, List.find?_isSome, List.mem_map]
    exact ⟨fun ⟨x, h1, h2⟩ => ⟨x, h1, of_decide_eq_true h2⟩, fun ⟨x, h1, h2⟩ => ⟨x, h1, decide_eq_true h2⟩⟩
  by_cases h : k ∈ xs.map (·.1)
  · rw [if_pos (hm.mpr h), if_pos h, List.map_map]
    apply List.map_congr_left
    intro x _
    show ((putAt k r x).1, (putAt k r x).2.1) = _
    unfold putAt
    split <;> rfl
  · rw [if_neg (fun z => h (hm.mp z)), if_neg h, List.map_append]; rfl
theorem sd_putX {i : Nat} {l : List (List D)} {j : Nat} {pt pb : Pos} (hu : X.A.units + 1 < cLine) (hN : X.N.findIdx? (fun y => y == x) = some i) (he : δ[i]? = some (Cell.ow (.ox (KdO X.prog X.w l)))) (hv : Vis X.env.scope x) (hz : l.length < sizeLine)
    (h : Pw X e δ fun d => ∃ k, d = .tup k ∧ k.all flatD = true ∧ Sd X rest (δ.set i (.ow (.ox (KdO X.prog X.w (putX l k))))) N R) (hd : (x == ("__debug__" : Str)) = false := by decide) (hcd : (x == ("__classdict__" : Str)) = false := by decide)
    (hs : swapsWith (.Constant (.bool true) j pb) (some (.Subscript (.Name x p) e pt)) pos.line X.env = pure false := by rfl) : Sd X (.Assign [.Subscript (.Name x p) e pt] (.Constant (.bool true) j pb) pos :: rest) δ N R :=
  sd_step (ps_kput hu (pe_var (ix_get hN) hv hd hcd) pe_s pe_bl hs) fun G0 H0 G H σ o E f g => by
    obtain ⟨a, fl, h1, h2, _⟩ := o.own he
    refine ⟨.ref a, h1, h.run G H σ o.ok _ fun v d G' H' g' r ⟨k, ed, fk, q⟩ => ?_⟩
    subst ed
    obtain ⟨fl', h2', k'⟩ := own_step o he h1 g'
    obtain ⟨rfl, u, ps, ⟨xs, rfl, e1, e2, e3⟩, hnt, eH, hps⟩ := h2'
    have hlen : xs.length = l.length := by have := congrArg List.length e1; simpa using this
    have hkey : ∀ (m : Nat) (x : LX), xs[m]? = some x → ∃ kd, l[m]? = some kd ∧ kd.map leafD = x.1 ∧ DT G' (.ref x.2.1) (.tup kd) := fun m x hx => by
      have hm : m < l.length := by rw [← hlen]; exact (List.getElem?_eq_some_iff.mp hx).1
      refine ⟨l[m], List.getElem?_eq_getElem hm, ?_, ?_⟩
      · have z := congrArg (·[m]?) e1
        simp only [List.getElem?_map, hx, List.getElem?_eq_getElem hm] at z
        exact (Option.some.inj z).symm
      · refine hps (x.2.1, .tup l[m]) ?_
        rw [e2]
        refine List.mem_of_getElem? (i := m) ?_
        rw [List.getElem?_zip_eq_some]
        exact ⟨by rw [List.getElem?_map, hx]; rfl, by rw [List.getElem?_map, List.getElem?_eq_getElem hm]; rfl⟩
    have ki : KeysIn X.prog X.w H' xs := fun x hx => by
      obtain ⟨m, hm⟩ := List.mem_iff_getElem?.mp hx
      obtain ⟨kd, h1, h2, h3⟩ := hkey m x hm
      cases h3 with
      | tup ee zz rr => exact ⟨_, g'.sg _ _ ee, fun its hv => by rw [← h2]; exact leaves_are rr (e3 _ (List.mem_of_getElem? h1)) hv⟩
    cases id r with
    | @tup b vs _ eb zb rb =>
      refine ⟨a, b, xs, k.map leafD, vs, rfl, rfl, eH, ki, g'.sg _ _ eb, fun its hv => leaves_are rb fk hv, by rw [hlen]; exact hz, fun w => f G' _ σ _ (k' _ (.ox (KdO X.prog X.w (putX l k))) (fun c hc => upd_ne (by simpa using hc)) ⟨rfl, _, _, ⟨_, rfl, ?_, rfl, ?_⟩, rfl, upd_same, ?_⟩) q⟩
      · have z := stored_keys xs (k.map leafD) b w
        have z1 := congrArg (·.map Prod.fst) z
        simp only [List.map_map] at z1
        have z2 : (storedH xs (k.map leafD) b w).map (fun x => x.1) = (if k.map leafD ∈ xs.map (·.1) then xs.map (fun x => (x.1, x.2.1)) else xs.map (fun x => (x.1, x.2.1)) ++ [(k.map leafD, b)]).map Prod.fst := z1
        rw [z2]
        unfold putX
        rw [e1]
        split
        · rw [List.map_map]; exact e1
        · rw [List.map_append, List.map_append, List.map_map, ← e1]; rfl
      · intro kk hkk
        unfold putX at hkk
        split at hkk
        · exact e3 kk hkk
        · rcases List.mem_append.mp hkk with z | z
          · exact e3 kk z
          · simp at z; subst z; exact fk
      · have z := stored_keys xs (k.map leafD) b w
        have z1 := congrArg (·.map Prod.snd) z
        simp only [List.map_map] at z1
        have z2 : (storedH xs (k.map leafD) b w).map (fun x => x.2.1) = (if k.map leafD ∈ xs.map (·.1) then xs.map (fun x => (x.1, x.2.1)) else xs.map (fun x => (x.1, x.2.1)) ++ [(k.map leafD, b)]).map Prod.snd := z1
        rw [z2]
        intro pp hpp
        unfold putX at hpp
        rw [e1] at hpp
        split at hpp
        · rw [List.map_map] at hpp
          exact hps pp (by rw [e2]; exact hpp)
        · rw [List.map_append, List.map_append, List.map_map, List.zip_append (by simp [hlen])] at hpp
          rcases List.mem_append.mp hpp with z | z
          · exact hps pp (by rw [e2]; exact z)
          · simp at z; subst z; exact r
theorem pw_listX (i : Nat) {l : List (List D)} (hc : X.calm = true) (hm : X.mg "list" = none) (hN : X.N.findIdx? (fun y => y == x) = some i) (hv : Vis X.env.scope x) (he : δ[i]? = some (Cell.ow (.ox (KdO X.prog X.w l)))) (q : Q (.lst (l.map .tup))) (hg : Gl X "list" := by rfl) (hd : (x == ("__debug__" : Str)) = false := by decide) (hcd : (x == ("__classdict__" : Str)) = false := by decide)
    (hs : starEach [.Name x p2] X.env = (false, eval (.Name x p2) X.env) :: starEach [] X.env := by rfl) (hpl : (backTo pos (starEach [] X.env)).any (·.1) = false := by rfl) (hz : l.length ≤ sizeLine) : Pw X (.Call (.Name "list" p) [.Name x p2] [] pos) δ Q :=
  ⟨fun G H σ o k f => by
    have ob : Okb G (fun _ => none) G H σ δ := by
      obtain ⟨fl, s, nd, fr⟩ := o.sl
      exact ⟨⟨o.sg, Same.refl _, (fun b x q => nomatch q), fun _ _ _ _ => rfl⟩, fl, s, nd, fun a ha => ⟨fr a ha, rfl⟩⟩
    obtain ⟨a, g, h1, h2, _⟩ := ob.own he
    obtain ⟨rfl, u, ps, ⟨xs, rfl, e1, e2, e3⟩, hnt, eH, hps⟩ := h2
    have hlen : xs.length = l.length := by have := congrArg List.length e1; simpa using this
    refine sE_of (pe_callTy (call_list_kd hc) hg hm bt_list (pa_cons (pe_var (ix_get hN) hv hd hcd) pa_nil hs) (by decide) (by decide) hs hpl) ⟨_, h1, a, _, rfl, eH, fun p hp => ?_⟩
    refine f _ _ _ _ (.new o.sg hp) (.lst upd_same (by rw [List.length_map]; exact hz) ?_) q
    refine DTs.mo (.of (Gr.new o.sg hp).g) ?_
    have key : ∀ (as : List Addr) (ks : List (List D)), as.length = ks.length → (∀ p ∈ as.zip (ks.map D.tup), DT G (.ref p.1) p.2) → DTs G (as.map V.ref) (ks.map D.tup) := by
      intro as
      induction as with
      | nil => intro ks hl _; cases ks with
        | nil => exact .nil
        | cons _ _ => simp at hl
      | cons a r ih => intro ks hl hp; cases ks with
        | nil => simp at hl
        | cons k ks => exact .cons (hp (a, .tup k) (by simp)) (ih ks (by simpa using hl) fun p hp' => hp p (by simp at hp' ⊢; exact .inr hp'))
    have := key (xs.map (·.2.1)) l (by simp [hlen]) (by rw [← e2]; exact hps)
    rw [List.map_map] at this
    exact this⟩
end
end AL
namespace AL
open PySem PySem.Spec PyProof.Rows L2

/-- a pair is stored into the table that a comprehension makes -/
theorem tab_store {X : Cx} {pins : List (Addr × Obj)} {σ : St} {H : Hp} {s : Shared} {E : Value → Shared → Prop} {T b : Addr} {l : List (List Key × V)} {k : List Key} {z : V} {r : Value} {Q : Unit → Shared → Prop}
    (hu : X.A.units + 1 < cLine) (I : Inv X pins σ H s) (hT : H T = some (.dT l)) (hb : H b = some (.tup (k.map kV))) (hl : l.length < sizeLine) (rz : RelV z r)
    (go : ∀ s', Inv X pins σ (upd H T (.dT (putK l k z))) s' → Q () s') : wpAny (model X.prog X.w) X.A (dictSet T (.ref b) r) Q E s := by
  obtain ⟨z0, sys, xs, rel, dd⟩ := dt_of I.hok hT
  have len1 : xs.length ≤ sizeLine := Paired.length rel ▸ z0
  have len2 : (putK l k z).length ≤ sizeLine := Nat.le_trans (length_putK l k z) hl
  refine wpAny_dictSet_heap (hsz := len1) (knd := tupleKind (mixKind X.prog X.w)) (Nat.lt_of_succ_lt hu) (key_of I.hok hb) dd fun h1 d1 sm => go _ ?_
  obtain ⟨ob, es, ep, g1, g2, g3, g4, _, g5⟩ := d1
  have fresh : ∀ c ys, H c = some (.tup ys) → upd H T (.dT (putK l k z)) c = some (.tup ys) := fun c ys ec => (upd_ne (ne_of ec hT (fun w => nomatch w))).trans ec
  exact d_write I (by rw [hT]; trivial) sm ⟨ob, g1⟩ ⟨len2, sys, _, (rel.put k hb rz).keeps fresh, ob, es, ep, g1, g2, g3, g4, g5⟩
section
variable {X : Cx}
/-- {(..): v for target in source}: T the new table -/
def tDt (wi : TI) (g : TG) (tk tv : TE) (own : List Nat) : TE := fun σ H Q => wi σ H fun J H1 => ∀ T, H1 T = none →
  ∃ Inv0 : Nat → Nat → Hp → Prop, (∃ m, Inv0 0 m (upd H1 T (.dT []))) ∧ ∀ i m H, Inv0 i m H → (J.stop i H ∧ Q (.ref T) H) ∨
    (J.go i H ∧ ∃ Nx : Hp → Prop, (∀ H', Nx H' → ∃ m', m' < m ∧ Inv0 (i + 1) m' H') ∧ ∀ x H', J.yld i H x H' → g x (wipe σ own) H' fun σ2 H2 => wipe σ2 own = wipe σ own ∧
      tk σ2 H2 fun y H4 => tv σ2 H4 fun z H5 => ∃ l k b, y = .ref b ∧ H5 b = some (.tup (k.map kV)) ∧ H5 T = some (.dT l) ∧ l.length < sizeLine ∧ Nx (upd H5 T (.dT (putK l k z))))
abbrev InBlk (X : Cx) (scope : Scope) (P : Cx → Prop) : Prop := ∀ (s : Shared) (H : Hp) (C : Addr) (cl : List (Str × Addr)) (fp : List Addr), P (X.blk s H scope (compEnvC scope cl C X.env) fp)
theorem dt_core {pins : List (Addr × Obj)} {s0 : Shared} {σ : St} {H0 : Hp} {Q : VK} {kx vx tg src : Expr} {scope : Scope} {own : List (Str × Nat)} {pos pos' : Pos} {wi : TI} {g : TG} {tk tv : TE} {use : Option (Value → Sem Unit)} {Qf : Value → Shared → Prop}
    (hu : ∀ s H C cl fp, (X.blk s H scope (compEnvC scope cl C X.env) fp).A.units + 1 < cLine) (calm : X.calm = true) (nd : X.N.Nodup) (I0 : Inv X pins σ H0 s0) (hsrc : PI X tg src wi) (ok : BlkOk X.N X.env.scope scope own)
    (hg : InBlk X scope fun Y => PG Y tg g) (hk : InBlk X scope fun Y => PE Y kx tk) (hv : InBlk X scope fun Y => PE Y vx tv) (hs : ∀ x, foldedSetIterable src X.env x = pure x)
    (h : tDt wi g tk tv (own.map (·.2)) σ H0 Q)
    (fin : ∀ T C s' m H', Inv X pins σ H' s' → Q (.ref T) H' → s'.heap.Ns C m → FpOk X pins H' C → compPost (model X.prog X.w) X.A X.xe use Qf (.ref T) C (.ok .next) s') :
    wpAny (model X.prog X.w) X.A (comprehension (.DictComp kx vx [⟨tg, src, [], 0⟩] scope pos) scope X.env pos' newDict false (eval src X.env) use) Qf X.xe s0 := by
  have free : ∀ y ∈ scope.names, y.2 = .free → ∃ c, X.env.cells.lookup y.1 = some c := fun y hy e => (ok.free y hy e).elim (fun k => I0.ok.has _ (.inl k)) (fun k => I0.ok.has _ (.inr k))
  refine wpAny_comprehension_free (use := use) rfl hs (closure_ok free) ok.kind (fun y hy e => (ok.uniq y hy).trans (by rw [e])) (thn (hsrc.run pins s0 σ H0 _ I0 h) fun xv s1 hx => thn hx fun itv t hit => ?_)
  obtain ⟨it, fp, tn, J, Ht, rfl, It, Tn, tn0, fpt, turnQ⟩ := hit
  refine wpAny_newObj_type (newEnv_comp ?_)
  generalize eT : t.heap.objs.size = T
  obtain ⟨Wn, ⟨m0, wn0⟩, turn⟩ := turnQ T (It.hok.fresh (Nat.le_of_eq eT))
  generalize eu : ({ t with heap := t.heap.push { cls := .type "dict", data := .dict #[] } } : Shared) = u
  have Iu : Inv X pins σ (upd Ht T (.dT [])) u := by
    subst eu eT
    exact It.laid (t' := t.toks) (fun b o e => Heap.get?_push_of_some _ e) (Nat.le_refl _) (dt_empty t.heap It.big)
  have hu3 : u.heap = t.heap.push { cls := .type "dict", data := .dict #[] } := eu ▸ rfl
  have low : ∀ b ∈ fp, b < t.heap.objs.size := fun b hb => let ⟨_, e, _⟩ := Tn.obj _ _ tn0 b hb; Heap.lt_size e
  have fpu : ∀ b ∈ fp, FpOk X pins (upd Ht T (.dT [])) b ∧ b < u.heap.objs.size := fun b hb =>
    ⟨⟨(upd_ne (eT ▸ Nat.ne_of_lt (low b hb))).trans (fpt b hb).1, (fpt b hb).2⟩, by rw [hu3, Heap.size_push]; exact Nat.lt_succ_of_lt (low b hb)⟩
  have tnu : tn 0 u.heap := Tn.keep _ _ _ tn0 fun b _ o e => hu3 ▸ Heap.get?_push_of_some _ e
  have Ib := block_start Iu ok nd fpu
  let cl := cellsFrom (u.heap.objs.size + 1) scope.names (cloFrom X.env.cells scope.names [])
  have pg := hg u (upd Ht T (.dT [])) u.heap.objs.size cl fp
  have pk := hk u (upd Ht T (.dT [])) u.heap.objs.size cl fp
  have pv := hv u (upd Ht T (.dT [])) u.heap.objs.size cl fp
  have pu := hu u (upd Ht T (.dT [])) u.heap.objs.size cl fp
  have none0 : ∀ b ∈ fp, upd Ht T (.dT []) b = none := fun b hb => (fpu b hb).1.1
  show codeAny _ _ (.compStart (.DictComp kx vx [⟨tg, src, [], 0⟩] scope pos) 0 (.ref it) (.ref T) (compEnvC scope cl u.heap.objs.size X.env)) (compPost (model X.prog X.w) X.A X.xe use Qf (.ref T) u.heap.objs.size) { u with heap := pushCells (u.heap.push { cls := .type "dict", data := .dict #[] }) scope.names }
  generalize ece : compEnvC scope cl u.heap.objs.size X.env = ce at pg pk pv pu ⊢
  have ece' : compEnvC scope (cellsFrom (u.heap.objs.size + 1) scope.names (cloFrom X.env.cells scope.names [])) u.heap.objs.size X.env = ce := ece
  rw [ece'] at Ib
  have cloc : ce.locals = u.heap.objs.size := ece ▸ rfl
  generalize eHu : upd Ht T (.dT []) = Hu at Iu Ib pg pk pv pu wn0 none0 fpu
  generalize ev : ({ u with heap := pushCells (u.heap.push { cls := .type "dict", data := .dict #[] }) scope.names } : Shared) = v at Ib ⊢
  have tnv : tn 0 v.heap := Tn.keep _ _ _ tnu fun b _ o e => ev ▸ pushCells_keeps _ _ _ _ (Heap.get?_push_of_some _ e)
  have walkable : ∀ {σ' : St} {H' : Hp} {s' : Shared}, Inv (X.blk u Hu scope ce fp) [] σ' H' s' → (∀ b ∈ fp, H' b = none) → ∀ b ∈ fp, FpOk (X.blk u Hu scope ce fp) [] H' b := fun I' n b hb =>
    ⟨n b hb, (I'.ok.exf b hb).1, I'.ok.exfs b hb, .inl hb, fun x c e => (I'.ok.exf b hb).2 x c e, fun p hp => absurd (show p ∈ ([] : List (Addr × Obj)) ++ [] from hp) (by simp)⟩
  have loop : codeAny (model X.prog X.w) X.A (.compLoop (.DictComp kx vx [⟨tg, src, [], 0⟩] scope pos) 0 (.ref it) (.ref T) ce) (compPost (model X.prog X.w) X.A X.xe use Qf (.ref T) u.heap.objs.size) v := by
    refine compLoop_anyD (fun n s' => ∃ i H', Inv (X.blk u Hu scope ce fp) [] (wipe σ (own.map (·.2))) H' s' ∧ tn i s'.heap ∧ (∀ b ∈ fp, H' b = none) ∧ Wn i n H') ?_ m0 ⟨0, Hu, Ib, tnv, none0, wn0⟩
    rintro n s5 ⟨i, H5, I5, tn5, no5, w5⟩
    rcases turn i n H5 w5 with ⟨stop, qq⟩ | ⟨go, Nx, down, step⟩
    · -- the source has ended
      refine thnF (Tn.done (X.blk u Hu scope ce fp) rfl rfl rfl calm i [] s5 _ H5 (fun _ _ => False) I5 (walkable I5 no5) tn5 stop) fun r s6 hr => ?_
      obtain ⟨rfl, I6⟩ := hr
      have back : Inv X pins σ H5 s6 := Iu.call' (ch := fp) I6.os I6.base I6.hok I6.bare fun b hb => let f := (fpu b hb).1.2; ⟨f.2.2.1, f.1, f.2.2.2.1, f.2.2.2.2⟩
      have nC : H5 u.heap.objs.size = none := cloc ▸ I6.free
      obtain ⟨m, hm, _⟩ := I6.loc
      exact fin T u.heap.objs.size s6 m H5 back qq (cloc ▸ (show s6.heap.Ns ce.locals m from hm)) (Iu.fpOk (Nat.le_refl _) nC)
    · -- an item
      refine thnF (Tn.item (X.blk u Hu scope ce fp) rfl rfl rfl calm i [] s5 _ H5 (fun _ _ => False) I5 (walkable I5 no5) tn5 go) fun r s6 hr => ?_
      obtain ⟨iv, rfl, h6⟩ := hr
      refine thnF h6 fun _ s7 ⟨x, H7, I7, r7, y7, tn7, no7⟩ => ?_
      have I7p := I7.pinned (walkable I7 no7) (Tn.obj _ _ tn7)
      refine thnF (pg.run _ s7 _ H7 x iv _ I7p r7 (step x H7 y7)) fun _ s8 ⟨σ8, H8, I8, hw8, q8⟩ => wpAny_pure ?_
      refine thnF (pk.run _ s8 σ8 H8 _ I8 q8) fun kv s9 ⟨yk, H9, I9, r9, q9⟩ => ?_
      refine thnF (pv.run _ s9 σ8 H9 _ I9 q9) fun vv s10 ⟨yv, H10, I10, r10, l, k, b, ek, eb, eT10, hl10, nx⟩ => ?_
      subst ek
      obtain rfl : kv = Value.ref b := r9
      refine tab_store (X := X.blk u Hu scope ce fp) pu I10 eT10 eb hl10 r10 fun s12 I12 => ?_
      obtain ⟨m', hm, w'⟩ := down _ nx
      have held : ∀ b ∈ fp, ∀ o, s7.heap.get? b = some o → s12.heap.get? b = some o ∧ upd H10 T (.dT (putK l k yv)) b = none := fun b hb o e =>
        let z := I12.pin (b, o) (List.mem_append_right _ (List.mem_append_right _ (mem_pinsAt hb e)))
        ⟨z.1, z.2.1⟩
      have slots : (wipe σ (own.map (·.2))).length = σ8.length := (congrArg List.length hw8).symm.trans (wipe_length σ8 _)
      refine ⟨m', hm, i + 1, _, (I12.unpinned (pins := [])).weak slots (fun j v e => (wipe_some (hw8 ▸ e)).1), Tn.keep _ _ _ tn7 fun b hb o e => (held b hb o e).1, fun b hb => ?_, w'⟩
      obtain ⟨o, e, _⟩ := Tn.obj _ _ tn7 b hb
      exact (held b hb o e).2
  exact codeAny_compStart_dict loop (Tn.self X.A 0 _ _ _ tnv loop)
end
end AL
namespace AL
open PySem PySem.Spec PyProof.Rows L2
abbrev eset (w : World) : Obj := { cls := .type "set", dict := none, data := .set #[] 0 (.fresh 0 0 (!w.params.followText "set-order")) }
section
variable {P : Program} {w : World} {A : Around} {E : Value → Shared → Prop} {s : Shared}
theorem set_of_list {l : Addr} {vs : Array Value} (ns : List Int) {Q : Value → Shared → Prop} (calm : A.handled = none) (il : s.heap.IsList l vs) (hin : IntsAre vs.toList ns) (small : ns.length + 1 < scanBound)
    (go : ∀ (h1 : Heap) (tk c : Nat), SetR w h1 s.heap.objs.size (fun j => decide (j ∈ ns)) c → c ≤ ns.length → (∀ b o, s.heap.get? b = some o → h1.get? b = some o) → Q (.ref s.heap.objs.size) { s with heap := h1, toks := tk }) :
    wpAny (model P w) A (call (.type "set") [.ref l]) Q E s := by
  have size0 : vs.size = ns.length := (Array.length_toList (xs := vs)).symm.trans (IntsAre.length hin)
  obtain ⟨c0, tl0, mro0⟩ := F.called_set.mro
  have made0 := F.called_set.made
  have sub0 := F.called_set.sub
  refine wpAny_call (codeAny_of_tree (show wpAny _ _ (callAny (.type "set") _) _ _ _ from ?_))
  refine wpAny_pure ⟨Code.quiet_builtin _ (by decide +kernel), codeAny_builtin F.entry_type_call ?_⟩
  rw [Around.under_plain (weight_type_call_type "set" [.ref l] []) rfl]
  have nt0 := F.called_set.notType
  have cc0 := F.called_set.canCreate
  have tc0 := F.typeCall_set_1 (.ref l)
  repeat (any_goals (first | assumption | wp_step))
  refine codeAny_mono (code_set_led1 (.ref l) (E := E) (Q₁ := fun obj s₁ => obj = .ref s.heap.objs.size ∧ s₁ = { s with heap := s.heap.push (eset w) }) ⟨rfl, rfl⟩) fun r s₁ hr => ?_
  cases r with
  | error e => exact hr
  | ok fl =>
    cases fl with
    | ret obj =>
      obtain ⟨rfl, rfl⟩ := hr
      have at0 : (s.heap.push (eset w)).get? s.heap.objs.size = some (eset w) := Heap.get?_push_size _ rfl
      have ty0 : Shared.TypeIs { s with heap := s.heap.push (eset w) } (.ref s.heap.objs.size) "set" := ⟨_, at0, rfl⟩
      have il0 := F.called_set.init.lookup
      have ib0 := F.called_set.init.bind (.ref s.heap.objs.size)
      repeat (any_goals (first | assumption | wp_step))
      refine codeAny_mono (codeAny_call_builtin (R := wants (fun r s₂ => r = .none ∧ ∃ h1 tk c, s₂ = { s with heap := h1, toks := tk } ∧ SetR w h1 s.heap.objs.size (fun j => decide (j ∈ ns)) c ∧ c ≤ ns.length ∧ (∀ b o, s.heap.get? b = some o → h1.get? b = some o)) E) F.called_set.init.plain F.entry_set_init (check_set_init_1 ty0 ?_)) fun r₂ s₂ hr₂ => ?_
      · obtain ⟨⟨cls1, dict1, data1, slots1⟩, get1, ecls, n1, edata⟩ := il
        simp only at ecls edata
        subst ecls edata
        have get2 : (s.heap.push (eset w)).get? l = some { cls := .type "list", dict := dict1, data := .seq vs n1, slots := slots1 } := Heap.get?_push_of_some _ get1
        have ns1 := F.sub_list_set
        have ns2 := F.sub_list_frozenset
        have ns3 : (Value.type "list" == Value.type "dict") = false := by decide
        have il1 : (s.heap.push (eset w)).IsList l vs := ⟨_, get2, rfl, n1, rfl⟩
        unfold Builtin.«set.__init__» noKeywords Builtin.Frozenset.updateFrom
        generalize ePI : pyIter = PI
        wp_walk
        subst ePI
        refine wpAny_pyIter_list il1 (wpAny_bind (wpAny_runValue ?_))
        have low : l < s.heap.objs.size := Heap.lt_size get1
        have calm3 : A.in1.in1.in1.handled = none := by simp [calm]
        have apart : l ≠ (s.heap.push (eset w)).objs.size := by rw [Heap.size_push]; exact Nat.ne_of_lt (Nat.lt_succ_of_lt low)
        have outside : s.heap.objs.size ∉ [(s.heap.push (eset w)).objs.size, l] := by
          rw [Heap.size_push]
          exact fun z => (List.mem_cons.mp z).elim (fun e => Nat.ne_of_lt (Nat.lt_succ_self _) e) fun z => Nat.ne_of_gt low (List.mem_singleton.mp z)
        have vals : ∀ (i : Nat) (v : Value), vs[i]? = some v → ∃ k t, ns[i]? = some k ∧ v = .int k t := fun i v hv => by
          have hi : i < ns.length := size0 ▸ (Array.getElem?_eq_some_iff.mp hv).1
          obtain ⟨t, e⟩ := PyProof.Rows.IntsAre.int_at hin i v (by rw [Array.getElem?_toList]; exact hv)
          exact ⟨ns[i], t, List.getElem?_eq_getElem hi, by rw [e, List.getD_eq_getElem?_getD, List.getElem?_eq_getElem hi]; rfl⟩
        refine set_update_ints ((Walks.list calm3 _ l apart vs).toS) s.heap.objs.size outside ns size0 small vals (vs.size - 0) 0 _ (by omega) (Nat.zero_le _) ⟨⟨_, Heap.get?_push_size _ rfl, rfl, rfl⟩, (il1.push _)⟩ ⟨0, Nat.le_refl 0, setR_new_at (Heap.get?_push_of_some _ at0)⟩ ?_
        intro s9 c9 mv c9l R9
        obtain ⟨h9, gens9, drawn9, toks9, os9⟩ := s9
        obtain rfl : gens9 = s.gens := mv.gens
        obtain rfl : drawn9 = s.drawn := mv.drawn
        obtain rfl : os9 = s.os := mv.os
        show wpAny _ _ _ _ _ _
        refine wpAny_pure (show wpAny _ _ (ret Value.none) _ _ _ from wpAny_pure ⟨rfl, h9, toks9, c9, rfl, R9, size0 ▸ c9l, fun b o e => ?_⟩)
        have lb : b < s.heap.objs.size := Heap.lt_size e
        refine mv.heap b o (fun z => ?_) (Heap.get?_push_of_some _ (Heap.get?_push_of_some _ e))
        exact (List.mem_cons.mp z).elim (fun e => Nat.ne_of_lt lb e) fun z => Nat.ne_of_lt (Nat.lt_succ_of_lt lb) ((List.mem_singleton.mp z).trans (Heap.size_push ..))
      · cases r₂ with
        | error e => exact hr₂
        | ok fl₂ =>
          cases fl₂ with
          | ret r =>
            obtain ⟨rfl, h1, tk, c1, rfl, R1, lc, keep⟩ := hr₂
            repeat (any_goals (first | assumption | wp_step))
            exact go _ _ _ R1 lc keep
          | _ => exact hr₂.elim
    | _ => exact hr.elim
end
/-- set(xs), a list of ints -/
def rSetL (K : PySem.W.Frag) (w : World) : List V → Hp → VK → Prop := fun xs H Q => ∃ (p : Addr) (ns : List Int), xs = [.ref p] ∧ SqL K H p (ns.map V.int) ∧ ns.length ≤ 60 ∧ ∀ q c, c ≤ ns.length → H q = none → Q (.ref q) (upd H q (SetO w q (fun j => decide (j ∈ ns)) c))
theorem cr_setL {X : Cx} (hc : X.calm = true) : CallR X (.type "set") (rSetL X.K X.w) := by
  intro pins s σ H xs us Q I r h
  obtain ⟨p, ns, rfl, hp, hn, q⟩ := h
  obtain ⟨u, rfl, rx⟩ := vals1 r
  obtain rfl : u = Value.ref p := rx
  obtain ⟨its, rv, pl, hz⟩ := I.list hp
  refine set_of_list ns (I.ok.hd hc) pl.isList (by simpa using ints_of_vals rv) (by unfold scanBound; omega) fun h1 tk c R1 lc keep => ?_
  exact ⟨.ref s.heap.objs.size, _, I.laid keep (Nat.le_refl _) (setO_new R1), rfl, q _ c lc (I.hok.fresh (Nat.le_refl _))⟩
section
variable {X : Cx} {e : Expr} {δ : List Cell} {Q : D → Prop} {pos p p2 q2 : Pos}
/-- sorted(set(xs)) -/
theorem pw_sortedSetL (hc : X.calm = true) (hm : X.mg "sorted" = none) (hm2 : X.mg "set" = none) (ha : Pw X e δ fun d => ∃ (ns ys : List Int), d = .lst (ns.map .int) ∧ ns.length ≤ 60 ∧ ys.Pairwise (· < ·) ∧ (∀ k, k ∈ ys ↔ k ∈ ns) ∧ Q (.lst (ys.map .int))) (hg : Gl X "sorted" := by rfl) (hg2 : Gl X "set" := by rfl)
    (hs : starEach [.Call (.Name "set" p2) [e] [] q2] X.env = (false, eval (.Call (.Name "set" p2) [e] [] q2) X.env) :: starEach [] X.env := by rfl) (hpl : (backTo pos (starEach [] X.env)).any (·.1) = false := by rfl)
    (hs2 : starEach [e] X.env = (false, eval e X.env) :: starEach [] X.env := by rfl) (hpl2 : (backTo q2 (starEach [] X.env)).any (·.1) = false := by rfl) : Pw X (.Call (.Name "sorted" p) [.Call (.Name "set" p2) [e] [] q2] [] pos) δ Q :=
  ⟨fun G H σ o k f => by
    refine sE_of (pe_callB (cr_sortedSet hc) hg hm bt_sorted (pa_cons (pe_callTy (cr_setL hc) hg2 hm2 bt_set (pa_cons pe_s pa_nil hs2) (by decide) (by decide) hs2 hpl2) pa_nil hs) (by decide) (by decide) hs hpl) ?_
    refine ha.run G H σ o _ fun v d G1 H1 g1 r1 ⟨ns, ys, ed, hn, hp, hmem, q⟩ => ?_
    subst ed
    cases r1 with
    | @lst a vs _ ee zz rr =>
      have ev := rr.ints
      refine ⟨a, ns, rfl, .of (by rw [← ev]; exact g1.sg _ _ ee), hn, fun qq c hcl hq => ?_⟩
      have g2 : Gr G1 H1 G1 (upd H1 qq (SetO X.w qq (fun j => decide (j ∈ ns)) c)) := .side g1.sg hq
      refine ⟨qq, _, c, rfl, upd_same, by omega, fun zs pp hzp hzm hzl hpp => ?_⟩
      have ez : zs = ys := by
        refine List.Perm.eq_of_pairwise (le := fun a b => a < b) (fun a b _ _ h1 h2 => absurd h1 (by omega)) hzp hp ?_
        refine (List.perm_ext_iff_of_nodup (hzp.imp fun h => by omega) (hp.imp fun h => by omega)).mpr fun k => ?_
        rw [hzm k, hmem k, decide_eq_true_eq]
      subst ez
      have g3 := g2.trans (Gr.new (o := .lst (zs.map V.int)) g2.sg hpp)
      refine f _ _ _ _ (g1.trans g3) (.lst upd_same ?_ (dts_ints _)) q
      rw [List.length_map, hzl]
      exact le_line (by omega)⟩
end
end AL
namespace AL
open PySem PySem.Spec PyProof.Rows L2

theorem meets_enum1 {v : Value} {o : Obj} {HH : Heap → Prop} (B : Begins v o HH) :
    Meets (Builtin.«enumerate.__new__» ⟨[.type "enumerate", v], []⟩) (fun _ R s => HH s.heap ∧ R (.ok (.ret (.ref (s.heap.push o).objs.size)))
      { s with heap := (s.heap.push o).push { cls := .type "enumerate", data := .fields #[.none, .bool false, .ref s.heap.objs.size, rawInt 0, .none, .none] } }) :=
  .of_wp fun prog w A R s ⟨h1, h⟩ => by
    obtain ⟨hp, gg, dd, tk, os⟩ := s
    have sube := sub_enumerate
    have begin1 : ∀ {A' : Around} {E : Value → Shared → Prop} {Q : Value → Shared → Prop}, Q (.ref hp.objs.size) ⟨hp.push o, gg, dd, tk, os⟩ → wpAny (model prog w) A' (pyIter v) Q E ⟨hp, gg, dd, tk, os⟩ := fun q => B.iter prog w _ _ ⟨hp, gg, dd, tk, os⟩ _ h1 q
    wp_walk using begin1
    refine wpAny_stack_any fun st => wpAny_pure ?_
    split
    · rename_i c _ _ _ _ _
      cases (c == Value.type "enumerate") <;> (wp_walk using begin1; exact ⟨_, rfl, h⟩)
    · wp_walk using begin1
      exact ⟨_, rfl, h⟩
theorem enum1_begins {prog : Program} {w : World} {A : Around} {E : Value → Shared → Prop} {s : Shared} {v : Value} {o : Obj} {HH : Heap → Prop} {Q : Value → Shared → Prop} (B : Begins v o HH) (h1 : HH s.heap)
    (h : ∀ h', IsEnum h' (s.heap.objs.size + 1) s.heap.objs.size 0 .none → h'.get? s.heap.objs.size = some o → (∀ b ob, s.heap.get? b = some ob → h'.get? b = some ob) → Q (.ref (s.heap.objs.size + 1)) { s with heap := h' }) :
    wpAny (model prog w) A (call (.type "enumerate") [v]) Q E s := by
  refine callType_new F.called_enumerate (by decide) (F.typeCall_enumerate_1 _) (F.newCall_enumerate_1 _) (fun obj => F.args_object_init_2 obj _) F.entry_enumerate_new (meets_enum1 B) ⟨h1, ?_⟩
  have size1 : (s.heap.push o).objs.size = s.heap.objs.size + 1 := Heap.size_push ..
  have en : IsEnum ((s.heap.push o).push { cls := .type "enumerate", data := .fields #[.none, .bool false, .ref s.heap.objs.size, rawInt 0, .none, .none] }) (s.heap.objs.size + 1) s.heap.objs.size 0 .none := by
    have z := Heap.get?_push_size (s.heap.push o) (o := { cls := .type "enumerate", data := .fields #[.none, .bool false, .ref s.heap.objs.size, rawInt 0, .none, .none] }) rfl
    rw [size1] at z
    exact z
  show _ ∧ _
  rw [size1]
  exact ⟨⟨_, en, rfl⟩, h _ en (Heap.get?_push_of_some _ (Heap.get?_push_size _ B.free)) fun b ob x => Heap.get?_push_of_some _ (Heap.get?_push_of_some _ x)⟩
/-- the pairs of enumerate(t) -/
def Itet (K : PySem.W.Frag) (a : Addr) : It :=
  ⟨fun i H => ∃ (xs : List V) (x : V), SqT K H a xs ∧ xs[i]? = some x, fun i H v H' => ∃ T x, v = .ref T ∧ H T = none ∧ H' = upd H T (.tup [.int (i : Nat), x]) ∧ ∀ xs, SqT K H a xs → xs[i]? = some x, fun i H => ∃ xs : List V, SqT K H a xs ∧ xs.length = i⟩
theorem sqT_inj {X : Cx} {pins : List (Addr × Obj)} {σ : St} {H : Hp} {s : Shared} {a : Addr} {xs ys : List V} (I : Inv X pins σ H s) (h1 : SqT X.K H a xs) (h2 : SqT X.K H a ys) : xs = ys := I.tuple_inj h1 h2
theorem turn_enumT {P : Program} {w : World} {K : PySem.W.Frag} {elts : List Expr} {kk : Nat} {tpos : Pos} (a e it : Addr) (ha : a ≠ it) (hae : e ≠ a) :
    Turn P w K (.Tuple elts kk tpos) (Itet K a) [e, it] e (fun i h => (∃ old, IsEnum h e it ((i : Nat) : Int) old) ∧ h.IsTupleIter it a i ∧ e ≠ it) where
  mem := by simp
  obj := fun i h st b hb => by
    obtain ⟨⟨old, he⟩, ⟨o, ho, hc, hd⟩, _⟩ := st
    rcases (show b = e ∨ b = it by simpa using hb) with rfl | rfl
    · exact ⟨_, he, fun v q => nomatch q⟩
    · exact ⟨o, ho, fun v q => by rw [hd] at q; cases q⟩
  keep := fun i h h' st k => let ⟨⟨old, he⟩, hi, hne⟩ := st; ⟨⟨old, k e (by simp) _ he⟩, hi.at fun o q => k it (by simp) o q, hne⟩
  item := by
    rintro X rfl rfl rfl hc i pins s σ H E I hf ⟨⟨old, he⟩, hit, hne⟩ ⟨xs, x, hq, hx⟩
    obtain ⟨its, rv, pl, hz⟩ := I.tuple hq
    obtain ⟨u, hu, ru⟩ := rv.get hx
    have lowE : e < s.heap.objs.size := Heap.lt_size he
    have lowI : it < s.heap.objs.size := by obtain ⟨_, q, _⟩ := hit; exact Heap.lt_size q
    have hi : i < its.toArray.size := by
      rw [List.size_toArray]
      exact (List.getElem?_eq_some_iff.mp hu).1
    have calm1 : X.A.in1.handled = none := I.ok.hd hc
    refine wpAny_pyNext_enum_itemC (Draws.tuple calm1 it a ha its.toArray) he ⟨hit, pl⟩ hi hne (fun z => ?_) fun y h' tk hy ho hst hT hsz hk => ?_
    · rcases List.mem_cons.mp z with z | z
      · exact hne z
      · exact hae (List.mem_singleton.mp z)
    have ey : y = u := by
      have z : its.toArray[i]? = some u := by simpa using hu
      exact Option.some.inj (hy.symm.trans z)
    subst ey
    refine ⟨_, rfl, wpAny_letOwnedTupleGo_enum (s := { s with heap := h', toks := tk + 1 }) ho fun h'' he' sb => ?_⟩
    have hT2 : h''.get? s.heap.objs.size = some { cls := .type "tuple", data := .seq #[.int i tk, y] } := (sb.2 _ (Nat.ne_of_gt lowE)).trans hT
    have laid : ObjOk X.prog X.w (upd H s.heap.objs.size (.tup [.int (i : Nat), x])) h'' s.heap.objs.size (.tup [.int (i : Nat), x]) := ⟨(show 2 ≤ sizeLine by decide), [.int i tk, y], .cons ⟨_, rfl⟩ (.cons ru .nil), ⟨_, hT2, rfl, _, rfl⟩⟩
    have I1 : Inv X pins σ (upd H s.heap.objs.size (.tup [.int (i : Nat), x])) { s with heap := h'', toks := tk + 1 } := I.turnedNew (ch := [e, it]) (fun b ob hb q => (sb.2 b (fun z => hb (by simp [z]))).trans (hk b ob (fun z => hb (by simp [z])) (fun z => hb (by simp [z])) q)) hf (Nat.le_refl _) laid
    refine ⟨.ref s.heap.objs.size, _, I1, rfl, ⟨_, x, rfl, I.hok.fresh (Nat.le_refl _), rfl, fun ys hy => by rw [sqT_inj I hy hq]; exact hx⟩, ⟨⟨y, by rw [show ((i + 1 : Nat) : Int) = (i : Int) + 1 from by omega]; exact he'⟩, hst.1.at fun o q => (sb.2 it (Ne.symm hne)).trans q, hne⟩, fun b hb => ?_⟩
    have lowB : b < s.heap.objs.size := by rcases (show b = e ∨ b = it by simpa using hb) with rfl | rfl <;> assumption
    exact (upd_ne (Nat.ne_of_lt lowB)).trans (hf b hb).1
  done := by
    rintro X rfl rfl rfl hc i pins s σ H E I hf ⟨⟨old, he⟩, hit, hne⟩ ⟨xs, hq, hx⟩
    obtain ⟨its, rv, pl, hz⟩ := I.tuple hq
    obtain ⟨f0, f1, f2, f3, f4, f5⟩ := hf it (by simp)
    have calm1 : X.A.in1.handled = none := I.ok.hd hc
    have ei : i = its.toArray.size := by rw [List.size_toArray, ← rv.length, hx]
    subst ei
    exact wpAny_pyNext_enum_endD (Draws.tuple calm1 it a ha its.toArray) he ⟨hit, pl⟩ fun h' eb => ⟨rfl, I.turned (t' := s.toks) (fun b o hb q => eb b o hb q) f0 f1 f3 f4 f5⟩
  self := fun A i s Q E st h => let ⟨⟨_, he⟩, _⟩ := st; wpAny_pyIter_enum he h
def iEnumT (K : PySem.W.Frag) (ta : TA) : TI := fun σ H R => ta σ H fun vs H1 => ∃ a xs, vs = [.ref a] ∧ SqT K H1 a xs ∧ R (Itet K a) H1
theorem pi_enumT {X : Cx} {e : Expr} {ta : TA} {p pos tpos : Pos} {elts : List Expr} {kk : Nat} (hg : Gl X "enumerate") (hm : X.mg "enumerate" = none) (ha : PA X [e] ta) (hs : starEach [e] X.env = [(false, eval e X.env)] := by rfl) :
    PI X (.Tuple elts kk tpos) (.Call (.Name "enumerate" p) [e] [] pos) (iEnumT X.K ta) := by
  refine ⟨fun pins s σ H R I h => Call_ (ld_blt I hg hm boot_enumerate (PyProof.Rows.callWith_type1 (thn (ha.run pos pins s σ H _ I h) fun us s1 ⟨vs, H1, I1, r1, a, xs, ex, hq, q⟩ => ?_) hs rfl))⟩
  subst ex
  obtain ⟨u, rfl, ru⟩ := vals1 r1
  obtain rfl : u = Value.ref a := ru
  obtain ⟨its, rv, pl, hz⟩ := I1.tuple hq
  refine enum1_begins (begins_tuple a its.toArray) pl fun h' he hit hk => wpAny_pyIter_enum he ?_
  have I2 : Inv X pins σ H1 { s1 with heap := h' } := I1.kept (t' := s1.toks) hk
  have lowA : a < s1.heap.objs.size := by obtain ⟨o, ho, _⟩ := pl; exact Heap.lt_size ho
  refine ⟨s1.heap.objs.size + 1, [s1.heap.objs.size + 1, s1.heap.objs.size], _, _, H1, rfl, I2, turn_enumT a (s1.heap.objs.size + 1) s1.heap.objs.size (Nat.ne_of_lt lowA) (Nat.ne_of_gt (Nat.lt_succ_of_lt lowA)), ⟨⟨.none, he⟩, ⟨_, hit, rfl, rfl⟩, Nat.succ_ne_self _⟩, fun b hb => ?_, q⟩
  have lowB : s1.heap.objs.size ≤ b := by
    rcases (show b = s1.heap.objs.size + 1 ∨ b = s1.heap.objs.size by simpa using hb) with rfl | rfl
    · exact Nat.le_add_right _ _
    · exact Nat.le_refl _
  exact I1.fpOk lowB (I1.hok.fresh lowB)
theorem wk_enumT {K : PySem.W.Frag} {G : Hp} {a : Addr} {vs : List V} {ds : List D} (e : G a = some (.tup vs)) (z : ds.length ≤ sizeLine) (r : DTs G vs ds) : Wk (Itet K a) (enD ds) G where
  len := by rw [enD_len]; exact z
  go := fun i H s h => by
    rw [enD_len] at h
    obtain ⟨v, h1, _⟩ := r.get (List.getElem?_eq_getElem h)
    exact ⟨vs, v, .of (s _ _ e), h1⟩
  stop := fun H s => ⟨vs, .of (s _ _ e), by rw [enD_len, r.length]⟩
  yld := fun i H x H' s h y G1 s1 g1 => by
    obtain ⟨T, x1, rfl, nT, rfl, y⟩ := y
    have h1 := y vs (.of (s _ _ e))
    obtain ⟨d, h2, h3⟩ := r.getV h1
    have g := Gr.new (o := .tup [.int (i : Nat), x1]) s1 nT
    exact ⟨_, _, enD_get h2, g, .tup upd_same (le_line (show 2 ≤ 100000 by decide)) (.cons (.int _) (.cons (h3.mo (.of (g1.trans g.g))) .nil))⟩
section
variable {X : Cx} {tg e a b : Expr} {δ : List Cell} {Q : List D → Prop} {p pos : Pos} {x : Str}
theorem pwi_enumT {elts : List Expr} {kk : Nat} {tpos : Pos} (hm : X.mg "enumerate" = none) (h : PwA X [e] δ fun ds => ∃ l, ds = [.tup l] ∧ Q (enD l)) (hg : Gl X "enumerate" := by rfl) (hs : starEach [e] X.env = [(false, eval e X.env)] := by rfl) : PwI X (.Tuple elts kk tpos) (.Call (.Name "enumerate" p) [e] [] pos) δ Q :=
  ⟨fun G H σ o R f => sI_of (pi_enumT hg hm pa_s hs) (h.run G H σ o _ fun vs ds G1 H1 g1 r1 ⟨l, e, q⟩ => by
    subst e
    obtain ⟨v, rfl, h⟩ := r1.one
    cases h with
    | tup e z r => exact ⟨_, _, rfl, .of (g1.sg _ _ e), f _ G1 H1 _ g1 (wk_enumT e z r) q⟩)⟩
theorem wk_GI {K : PySem.W.Frag} {G : Hp} {a : Addr} {is : List Int} (h : ∀ H, SqT K H a (is.map V.int)) (z : is.length ≤ sizeLine) : Wk (Itt K a) (is.map D.int) G where
  len := by rw [List.length_map]; exact z
  go := fun i H s hi => ⟨_, .int (is[i]'(by simpa using hi)), h H, by rw [List.getElem?_map, List.getElem?_eq_getElem (by simpa using hi)]; rfl⟩
  stop := fun H s => ⟨_, h H, by simp⟩
  yld := fun i H x H' s hi y G1 s1 g1 => by
    obtain ⟨rfl, y⟩ := y
    have h1 := y _ (h H')
    rw [List.length_map] at hi
    rw [List.getElem?_map, List.getElem?_eq_getElem hi] at h1
    cases h1
    exact ⟨G1, .int is[i], by rw [List.getElem?_map, List.getElem?_eq_getElem hi]; rfl, .refl s1, .int _⟩
theorem pwi_GI {is : List Int} (hT : GI X.K X.mg x is) (hg : Gl X x) (z : is.length ≤ sizeLine) (q : Q (is.map D.int)) (hd : (x == ("__debug__" : Str)) = false := by decide) : PwI X tg (.Name x pos) δ Q :=
  ⟨fun G H σ o R f => by
    obtain ⟨a, h1, h2⟩ := hT
    exact sI_of (pi_tup (pe_glob (v := .ref a) hg h1 rfl hd)) ⟨a, rfl, ⟨_, h2 H⟩, f _ G H _ (.refl o.sg) (wk_GI h2 z) q⟩⟩
end

theorem okb_fresh {G0 H0 G H G' H' : Hp} {σ : St} {δ : List Cell} (o : Okb G0 H0 G H σ δ) {a : Addr} {u : HO} {m : M} {j : Nat} (g : Gr G H G' H') (ha : H a = none) (na : G' a = none) (ea : H' a = some u) (ow : Own G' H' a m [a]) (hj : j < δ.length) :
    Okb G0 H0 G' H' (σ.set j (some (.ref a))) (δ.set j (.ow m)) := by
  have g1 : Gr G H G' (fun b => if b = a then none else H' b) := ⟨fun b x e => by
      show (if b = a then none else H' b) = _
      rw [if_neg (ne_of_none e na)]; exact g.sg b x e, g.g, fun b x e => by
      show (if b = a then none else H' b) = _
      rw [if_neg (ne_of_none e ha)]; exact g.h b x e, g.nw⟩
  have e : H' = upd (fun b => if b = a then none else H' b) a u := by
    funext b
    by_cases hb : b = a
    · subst hb; rw [upd_same, ea]
    · rw [upd_ne hb, if_neg hb]
  have ow' := ow
  rw [e] at ow'
  have o1 := (o.grow g1).newO (i := j) (p := a) (u := u) (if_pos rfl) (by rw [o.ok.length]; exact hj) (m := m) ow'
  rw [← e] at o1
  exact o1
/-- an expression that gives a fresh table -/
structure PwXT (t : TE) (δ : List Cell) (Q : List (Int × Int) → Prop) : Prop where
  run : ∀ (G H : Hp) (σ : St), Ok G H σ δ → ∀ k : VK, (∀ a l G' H', Gr G H G' H' → H a = none → G' a = none → H' a = some (.dT (l.map tabE)) → Q l → k (.ref a) H') → t σ H k
section
variable {X : Cx} {kx vx tg iter e : Expr} {scope : Scope} {pos p p2 : Pos} {δ : List Cell} {Q : D → Prop} {x : Str} {st : Stmt} {rest : List Stmt} {N : List Cell → Prop} {R : D → List Cell → Prop}
def dtT (X : Cx) (kx vx tg iter : Expr) (scope : Scope) (own : List (Str × Nat)) : TE :=
  tDt (sI X tg iter) (fun v σ H K => ∀ s0 H0 C cl fp, sG (X.blk s0 H0 scope (compEnvC scope cl C X.env) fp) tg v σ H K)
    (fun σ H K => ∀ s0 H0 C cl fp, sE (X.blk s0 H0 scope (compEnvC scope cl C X.env) fp) kx σ H K) (fun σ H K => ∀ s0 H0 C cl fp, sE (X.blk s0 H0 scope (compEnvC scope cl C X.env) fp) vx σ H K) (own.map (·.2))
theorem ps_dtT {own : List (Str × Nat)} {i : Nat} {y : Str} {py spos : Pos} (hu : X.A.units + 1 < cLine) (hc : X.calm = true) (hN : X.N.Nodup) (ok : BlkOk X.N X.env.scope scope own) (hy : X.N[i]? = some y) (hyl : X.env.scope.names.lookup y = some .local)
    (hsw : swapsWith (.DictComp kx vx [⟨tg, iter, [], 0⟩] scope pos) (some (.Name y py)) spos.line X.env = pure true) (hs : ∀ x, foldedSetIterable iter X.env x = pure x) : PS X (.Assign [.Name y py] (.DictComp kx vx [⟨tg, iter, [], 0⟩] scope pos) spos) (tAsg (dtT X kx vx tg iter scope own) (gName i)) := by
  refine ⟨fun pins s σ H E I h => ?_⟩
  rw [exec_Assign_Name_used _ _ _ _ hsw]
  refine wpAny_bind (wpAny_standAt (wpAny_bind ?_))
  show wpAny _ X.A (do let _ ← comprehension (.DictComp kx vx [⟨tg, iter, [], 0⟩] scope pos) scope X.env (firstIterPos [⟨tg, iter, [], 0⟩] pos) newDict false (eval iter X.env) (some (assign (.Name y py) X.env))) _ _ s
  have h0 : tDt (sI X tg iter) (fun v σ H K => ∀ s0 H0 C cl fp, sG (X.blk s0 H0 scope (compEnvC scope cl C X.env) fp) tg v σ H K) (fun σ H K => ∀ s0 H0 C cl fp, sE (X.blk s0 H0 scope (compEnvC scope cl C X.env) fp) kx σ H K)
    (fun σ H K => ∀ s0 H0 C cl fp, sE (X.blk s0 H0 scope (compEnvC scope cl C X.env) fp) vx σ H K) (own.map (·.2)) σ H (fun v H1 => gName i v σ H1 E.nx) := h
  refine wpAny_bind (thn (dt_core (own := own) (Q := fun v H1 => gName i v σ H1 E.nx) (Qf := fun _ s' => SP X pins E .next s') (fun _ _ _ _ _ => hu) hc hN I pi_s ok
    (fun s0 H0 C cl fp => ⟨fun pins s _ _ _ u _ I r h => h s0 H0 C cl fp pins s u I r⟩) (fun s0 H0 C cl fp => ⟨fun pins s _ _ _ I h => h s0 H0 C cl fp pins s I⟩) (fun s0 H0 C cl fp => ⟨fun pins s _ _ _ I h => h s0 H0 C cl fp pins s I⟩) hs h0
    fun T C s' m H' I' q hn f => ?_) fun _ s' hq => wpAny_pure (wpAny_pure hq))
  show wpAny _ _ (assign (.Name y py) X.env (.ref T)) _ _ _
  refine wpAny_assign_Name (store_ok2 (v := V.ref T) I' hN hy (.inl hyl) rfl (fun s2 I2 ⟨a, sb, ha⟩ => ?_) (.inr hyl))
  obtain ⟨f0, f1, f2, f3, f4, f5⟩ := f
  have apart : C ≠ a := ha.elim (fun z => z ▸ f1) fun z e => f4 y a z e.symm
  exact ⟨m, hn.sameBut sb apart, fun h3 sb3 => ⟨_, H', I2.turned (t' := s2.toks) (fun b o hb e => (sb3.2 b hb).trans e) f0 f1 f3 f4 f5, q⟩⟩
theorem dtx {own : List (Str × Nat)} {QT : List (Int × Int) → Prop}
    (hi : PwI X tg iter δ fun ds => ∃ (α : Type) (xs : List α) (enc : α → D) (f : α → Int × Int) (is : List Nat), ds = xs.map enc ∧ (∀ i ∈ is, i ∈ own.map (·.2)) ∧ (xs.map f).Nodup ∧
      (∀ x ∈ xs, BlkAll X scope fun Y => PwG Y tg (enc x) (wipeC δ (own.map (·.2))) is fun δ2 => BlkAll X scope fun Y1 => Pw Y1 kx δ2 fun d => d = prD (f x) ∧ BlkAll X scope fun Y2 => Pw Y2 vx δ2 fun d2 => d2 = .bl true) ∧ QT (xs.map f)) : PwXT (dtT X kx vx tg iter scope own) δ QT :=
  ⟨fun G H σ o k kf => by
    unfold dtT tDt
    refine hi.run G H σ o _ fun J G1 H1 ds g1 wk hq T hT => ?_
    obtain ⟨α, xs, enc, f, is, rfl, his, hnd, hel, q⟩ := hq
    have o1 := o.grow g1
    have hlen : (xs.map enc).length = xs.length := List.length_map ..
    refine ⟨fun i m H2 => m = xs.length - i ∧ i ≤ xs.length ∧ ∃ G2, Gr G1 H1 G2 H2 ∧ G2 T = none ∧ H2 T = some (.dT (((xs.take i).map f).map tabE)), ⟨xs.length, by simp, Nat.zero_le _, G1, .side g1.sg hT, g1.sg.free hT, upd_same⟩, ?_⟩
    rintro i m H2 ⟨rfl, hi2, G2, g2, nD, eD⟩
    by_cases hlt : i < xs.length
    · refine .inr ⟨wk.go i H2 (g2.g.trans g2.sg) (by rw [hlen]; exact hlt), fun H3 => i + 1 ≤ xs.length ∧ ∃ G2, Gr G1 H1 G2 H3 ∧ G2 T = none ∧ H3 T = some (.dT (((xs.take (i + 1)).map f).map tabE)), fun H3 ⟨h1, h2⟩ => ⟨xs.length - (i + 1), by omega, rfl, h1, h2⟩, fun x H3 y => ?_⟩
      have o2 : Ok G2 H2 σ δ := o1.grow g2
      obtain ⟨G3, d, hd, g3, rx⟩ := wk.yld i H2 x H3 (g2.g.trans g2.sg) (by rw [hlen]; exact hlt) y G2 g2.sg g2.g
      have hxi : xs[i]? = some xs[i] := List.getElem?_eq_getElem hlt
      rw [List.getElem?_map, hxi] at hd
      cases hd
      intro s0 H0 C cl fp
      refine (hel xs[i] (List.getElem_mem hlt) s0 H0 C cl fp).run G3 H3 _ x g3.sg rx _ fun σ4 δ4 s4 h4 => ?_
      have w5 : wipe (wipe σ (own.map (·.2))) (own.map (·.2)) = wipe σ (own.map (·.2)) := wipe_twice fun _ h => h
      refine ⟨by rw [s4.wipe his, w5], fun s1 H1' C1 cl1 fp1 => ?_⟩
      have o4 : Ok G3 H3 σ4 δ4 := s4.ok ((o2.grow g3).wiped _)
      refine (h4 s1 H1' C1 cl1 fp1).run G3 H3 σ4 o4 _ fun v5 d5 G5 H5 g5 r5 ⟨e5, h5⟩ => ?_
      subst e5
      intro s2 H2' C2 cl2 fp2
      refine (h5 s2 H2' C2 cl2 fp2).run G5 H5 σ4 (o4.grow g5) _ fun v6 d6 G6 H6 g6 r6 e6 => ?_
      subst e6
      cases r6
      obtain ⟨b, rfl, eb⟩ := dt_pair (g6.dt r5)
      have g26 := g3.trans (g5.trans g6)
      have eD6 : H6 T = some (.dT (((xs.take i).map f).map tabE)) := g26.h _ _ eD
      have nD6 : G6 T = none := (g26.nw T _ eD rfl).trans nD
      refine ⟨_, [Sum.inl (f xs[i]).1, Sum.inl (f xs[i]).2], b, rfl, g6.sg _ _ eb, eD6, ?_, hlt, G6, (g2.trans g26).put hT nD6, nD6, ?_⟩
      · simp only [List.length_map, List.length_take]
        have := wk.len
        rw [hlen] at this
        omega
      · rw [upd_same, put_tab _ (f xs[i])]
        have hnot : f xs[i] ∉ (xs.take i).map f := fun hm => by
          obtain ⟨y, hy, e⟩ := List.mem_map.mp hm
          obtain ⟨j, hj, e2⟩ := List.getElem_of_mem hy
          rw [List.length_take] at hj
          rw [List.getElem_take] at e2
          have : (xs.map f)[j]'(by simp; omega) = (xs.map f)[i]'(by simp; omega) := by simp [e2, e]
          have := (List.getElem_inj hnd).mp this
          omega
        unfold putT
        rw [if_neg hnot]
        simp only [List.take_add_one, hxi, List.map_append, Option.toList, List.map_cons, List.map_nil]
    · have e : i = xs.length := by omega
      subst e
      rw [List.take_length] at eD
      exact .inl ⟨by have := wk.stop H2 (g2.g.trans g2.sg); rwa [hlen] at this, kf T _ G2 H2 (g1.trans g2) (g1.h.free hT) nD eD q⟩⟩
theorem sd_setXT {t : TE} {j : Nat} (hj : j < δ.length) (hps : PS X st (tAsg t (gName j))) (h : PwXT t δ fun l => Sd X rest (δ.set j (.ow (.tab l))) N R) : Sd X (st :: rest) δ N R :=
  sd_step hps fun G0 H0 G H σ o E f g => h.run G H σ o.ok _ fun a l G' H' g' ha na ea q => f G' H' _ _ (okb_fresh (m := .tab l) o g' ha na ea ⟨rfl, ea⟩ hj) q

def dcT (X : Cx) (kx vx tg iter : Expr) (scope : Scope) (own : List (Str × Nat)) : TE :=
  tDc (sI X tg iter) (fun v σ H K => ∀ s0 H0 C cl fp, sG (X.blk s0 H0 scope (compEnvC scope cl C X.env) fp) tg v σ H K) (fun σ H K => ∀ s0 H0 C cl fp, sTs (X.blk s0 H0 scope (compEnvC scope cl C X.env) fp) [] σ H K)
    (fun σ H K => ∀ s0 H0 C cl fp, sE (X.blk s0 H0 scope (compEnvC scope cl C X.env) fp) kx σ H K) (fun σ H K => ∀ s0 H0 C cl fp, sE (X.blk s0 H0 scope (compEnvC scope cl C X.env) fp) vx σ H K) (own.map (·.2))
theorem pe_dcT {own : List (Str × Nat)} (hc : X.calm = true) (hN : X.N.Nodup) (ok : BlkOk X.N X.env.scope scope own) (hs : ∀ x, foldedSetIterable iter X.env x = pure x) : PE X (.DictComp kx vx [⟨tg, iter, [], 0⟩] scope pos) (dcT X kx vx tg iter scope own) :=
  pe_dc (own := own) hc hN pi_s ok (fun s0 H0 C cl fp => ⟨fun pins s _ _ _ u _ I r h => h s0 H0 C cl fp pins s u I r⟩) (fun s0 H0 C cl fp => ⟨fun pins s σ H Q I h => pts_s.run pins s σ H Q I (h s0 H0 C cl fp)⟩)
    (fun s0 H0 C cl fp => ⟨fun pins s _ _ _ I h => h s0 H0 C cl fp pins s I⟩) (fun s0 H0 C cl fp => ⟨fun pins s _ _ _ I h => h s0 H0 C cl fp pins s I⟩) hs
theorem put_imp {l : List (Int × Int)} {k v : Int} (h : k ∉ l.map (·.1)) : putK (l.map impE) (Sum.inl k : Key) (.int v) = (l ++ [(k, v)]).map impE := by
  have hv : valV (l.map impE) (Sum.inl k : Key) = none := by
    rw [val_imp]
    have : getM l k = none := by
      induction l with
      | nil => rfl
      | cons p r ih =>
        simp at h
        rw [getM, if_neg (fun z => h.1 z.symm)]
        exact ih (by simpa using h.2)
    rw [this]; rfl
  rw [putK_new _ hv, List.map_append]; rfl
theorem pw_dc {own : List (Str × Nat)} (hc : X.calm = true) (hN : X.N.Nodup) (ok : BlkOk X.N X.env.scope scope own)
    (hi : PwI X tg iter δ fun ds => ∃ (α : Type) (xs : List α) (enc : α → D) (f : α → Int × Int) (is : List Nat), ds = xs.map enc ∧ (∀ i ∈ is, i ∈ own.map (·.2)) ∧ (xs.map fun x => (f x).1).Nodup ∧
      (∀ x ∈ xs, BlkAll X scope fun Y => PwG Y tg (enc x) (wipeC δ (own.map (·.2))) is fun δ2 => BlkAll X scope fun Y1 => Pw Y1 kx δ2 fun d => d = .int (f x).1 ∧ BlkAll X scope fun Y2 => Pw Y2 vx δ2 fun d2 => d2 = .int (f x).2) ∧ Q (.imp (xs.map f)))
    (hs : ∀ x, foldedSetIterable iter X.env x = pure x := by intro _; rfl) : Pw X (.DictComp kx vx [⟨tg, iter, [], 0⟩] scope pos) δ Q :=
  ⟨fun G H σ o k kf => by
    refine sE_of (pe_dcT (own := own) hc hN ok hs) ?_
    unfold dcT tDc
    refine hi.run G H σ o _ fun J G1 H1 ds g1 wk hq T hT => ?_
    obtain ⟨α, xs, enc, f, is, rfl, his, hnd, hel, q⟩ := hq
    have o1 := o.grow g1
    have hlen : (xs.map enc).length = xs.length := List.length_map ..
    refine ⟨fun i m H2 => m = xs.length - i ∧ i ≤ xs.length ∧ ∃ G2, Gr G1 H1 G2 H2 ∧ G2 T = none ∧ H2 T = some (.dK (((xs.take i).map f).map impE)), ⟨xs.length, by simp, Nat.zero_le _, G1, .side g1.sg hT, g1.sg.free hT, upd_same⟩, ?_⟩
    rintro i m H2 ⟨rfl, hi2, G2, g2, nD, eD⟩
    by_cases hlt : i < xs.length
    · refine .inr ⟨wk.go i H2 (g2.g.trans g2.sg) (by rw [hlen]; exact hlt), fun H3 => i + 1 ≤ xs.length ∧ ∃ G2, Gr G1 H1 G2 H3 ∧ G2 T = none ∧ H3 T = some (.dK (((xs.take (i + 1)).map f).map impE)), fun H3 ⟨h1, h2⟩ => ⟨xs.length - (i + 1), by omega, rfl, h1, h2⟩, fun x H3 y => ?_⟩
      have o2 : Ok G2 H2 σ δ := o1.grow g2
      obtain ⟨G3, d, hd, g3, rx⟩ := wk.yld i H2 x H3 (g2.g.trans g2.sg) (by rw [hlen]; exact hlt) y G2 g2.sg g2.g
      have hxi : xs[i]? = some xs[i] := List.getElem?_eq_getElem hlt
      rw [List.getElem?_map, hxi] at hd
      cases hd
      intro s0 H0 C cl fp
      refine (hel xs[i] (List.getElem_mem hlt) s0 H0 C cl fp).run G3 H3 _ x g3.sg rx _ fun σ4 δ4 s4 h4 => ?_
      have w5 : wipe (wipe σ (own.map (·.2))) (own.map (·.2)) = wipe σ (own.map (·.2)) := wipe_twice fun _ h => h
      refine ⟨by rw [s4.wipe his, w5], fun s1 H1' C1 cl1 fp1 => ?_⟩
      have o4 : Ok G3 H3 σ4 δ4 := s4.ok ((o2.grow g3).wiped _)
      refine ⟨tYes, pts_nil, ?_⟩
      unfold tYes
      simp only [if_true]
      intro s1 H1' C1 cl1 fp1
      refine (h4 s1 H1' C1 cl1 fp1).run G3 H3 σ4 o4 _ fun v5 d5 G5 H5 g5 r5 ⟨e5, h5⟩ => ?_
      subst e5
      cases r5
      intro s2 H2' C2 cl2 fp2
      refine (h5 s2 H2' C2 cl2 fp2).run G5 H5 σ4 (o4.grow g5) _ fun v6 d6 G6 H6 g6 r6 e6 => ?_
      subst e6
      cases r6
      have g26 := g3.trans (g5.trans g6)
      have eD6 : H6 T = some (.dK (((xs.take i).map f).map impE)) := g26.h _ _ eD
      have nD6 : G6 T = none := (g26.nw T _ eD rfl).trans nD
      refine ⟨_, Sum.inl (f xs[i]).1, rfl, eD6, ?_, hlt, G6, (g2.trans g26).put hT nD6, nD6, ?_⟩
      · simp only [List.length_map, List.length_take]
        have := wk.len
        rw [hlen] at this
        omega
      · rw [upd_same]
        have hnot : (f xs[i]).1 ∉ ((xs.take i).map f).map (·.1) := fun hm => by
          rw [List.map_map] at hm
          obtain ⟨y, hy, e⟩ := List.mem_map.mp hm
          obtain ⟨j, hj, e2⟩ := List.getElem_of_mem hy
          rw [List.length_take] at hj
          rw [List.getElem_take] at e2
          have : (xs.map fun x => (f x).1)[j]'(by simp; omega) = (xs.map fun x => (f x).1)[i]'(by simp; omega) := by simp [e2]; exact e
          have := (List.getElem_inj hnd).mp this
          omega
        rw [put_imp hnot]
        simp only [List.take_add_one, hxi, List.map_append, Option.toList, List.map_cons, List.map_nil]
    · have e : i = xs.length := by omega
      subst e
      rw [List.take_length] at eD
      refine .inl ⟨by have := wk.stop H2 (g2.g.trans g2.sg); rwa [hlen] at this, ?_⟩
      exact kf (.ref T) _ _ H2 (g1.trans (g2.take hT eD nD)) (.imp (.inl upd_same)) q⟩

/-- x[e] = v, x an owned dict of ints, a new key -/
theorem sd_putM {i : Nat} {l : List (Int × Int)} {value : Expr} {pt : Pos} (hu : X.A.units + 1 < cLine) (hN : X.N.findIdx? (fun y => y == x) = some i) (he : δ[i]? = some (Cell.ow (.imp l))) (hv : Vis X.env.scope x) (hz : l.length < sizeLine)
    (h : Pw X value δ fun dv => Pw X e δ fun d => ∃ k v, dv = .int v ∧ d = .int k ∧ k ∉ l.map (·.1) ∧ Sd X rest (δ.set i (.ow (.imp (l ++ [(k, v)])))) N R) (hd : (x == ("__debug__" : Str)) = false := by decide) (hcd : (x == ("__classdict__" : Str)) = false := by decide)
    (hs : swapsWith value (some (.Subscript (.Name x p) e pt)) pos.line X.env = pure false := by rfl) : Sd X (.Assign [.Subscript (.Name x p) e pt] value pos :: rest) δ N R :=
  sd_step (ps_dput hu (pe_var (ix_get hN) hv hd hcd) pe_s pe_s hs) fun G0 H0 G H σ o E f g => by
    obtain ⟨a, fl, h1, h2, _⟩ := o.own he
    refine h.run G H σ o.ok _ fun v0 d0 G1 H1 g1 r1 hh => ⟨.ref a, h1, hh.run G1 H1 σ (o.grow g1).ok _ fun v d G' H' g' r ⟨k, v1, ev, ed, hk, q⟩ => ?_⟩
    subst ev ed
    cases r1
    cases r
    have gg := g1.trans g'
    obtain ⟨fl', h2', k'⟩ := own_step o he h1 gg
    obtain ⟨rfl, e'⟩ := h2'
    refine ⟨a, _, rfl, DPut.k (k := Sum.inl k) e' (by rw [List.length_map]; exact hz), f G' _ σ _ (k' _ (.imp (l ++ [(k, v1)])) (fun b hb => upd_ne (by simpa using hb)) ⟨rfl, ?_⟩) q⟩
    rw [upd_same, put_imp hk]
/-- x[e] = v, x an owned list -/
theorem sd_putL {i : Nat} {l : List D} {value : Expr} {pt : Pos} (hN : X.N.findIdx? (fun y => y == x) = some i) (he : δ[i]? = some (Cell.ow (.lst l))) (hv : Vis X.env.scope x)
    (h : Pw X value δ fun dv => Pw X e δ fun d => ∃ k j, d = .int k ∧ ixN l.length k = some j ∧ Sd X rest (δ.set i (.ow (.lst (l.set j dv)))) N R) (hd : (x == ("__debug__" : Str)) = false := by decide) (hcd : (x == ("__classdict__" : Str)) = false := by decide)
    (hs : swapsWithSole [.Subscript (.Name x p) e pt] value pos.line X.env = pure false := by rfl) (hw : swappedStores [.Subscript (.Name x p) e pt] value X.env = pure none := by rfl)
    (h1 : (assignEach [.Subscript (.Name x p) e pt] X.env).map (·.2) = [assign (.Subscript (.Name x p) e pt) X.env] := by rfl)
    (ha : ∀ v, assign (.Subscript (.Name x p) e pt) X.env v = (do
      let ov ← holding [v] (eval (.Name x p) X.env)
      let iv ← holding [v, ov] (eval e X.env)
      standAt pt
      holding [v, ov, iv] (setItem ov iv v)
      release [v, ov, iv] []) := by intro _; rfl) : Sd X (.Assign [.Subscript (.Name x p) e pt] value pos :: rest) δ N R :=
  sd_step (ps_asg pe_s (pg_sub (pe_var (ix_get hN) hv hd hcd) pe_s set_list ha) hs hw h1) fun G0 H0 G H σ o E f g => by
    obtain ⟨a, fl, e1, h2, _⟩ := o.own he
    refine h.run G H σ o.ok _ fun v0 d0 G1 H1 g1 r1 hh => ⟨.ref a, e1, hh.run G1 H1 σ (o.grow g1).ok _ fun v d G' H' g' r ⟨k, j, ed, hj, q⟩ => ?_⟩
    subst ed
    cases r
    have gg := g1.trans g'
    obtain ⟨fl', h2', k'⟩ := own_step o he e1 gg
    obtain ⟨rfl, z', vs', e', r'⟩ := h2'
    refine ⟨a, vs', k, j, rfl, rfl, e', by rw [r'.length]; exact hj, f G' _ σ _ (k' _ (.lst (l.set j d0)) (fun b hb => upd_ne (by simpa using hb)) ⟨rfl, ?_, _, upd_same, r'.set (g'.dt r1) j⟩) q⟩
    rw [List.length_set]; exact z'
/-- [..].index(e) of texts -/
theorem pw_index {o0 : Expr} {apos : Pos} (h : Pw X o0 δ fun d1 => ∃ l : List Str, d1 = .lst (l.map .str) ∧ Pw X e δ fun d2 => ∃ (y : Str) (j : Nat), d2 = .str y ∧ l[j]? = some y ∧ (∀ m : Nat, m < j → l[m]? ≠ some y) ∧ Q (.int (j : Int)))
    (hbase : attributeBase o0 "index" X.env (eval o0 X.env) = eval o0 X.env := by rfl)
    (hfew : ((backTo pos (starEach [e] X.env)).all (fun x => !x.1) && (backToKw pos (keywordEach [] X.env)).all (fun x => x.1.isSome) && decide (([e] : List Expr).length + ([] : List Keyword).length + (if ([] : List Keyword).isEmpty then 0 else 1) < 30)) = true := by rfl)
    (hline : (apos.endLine == pos.line) = true := by rfl) (hs : starEach [e] X.env = (false, eval e X.env) :: starEach [] X.env := by rfl) (hpl : (backTo pos (starEach [] X.env)).any (·.1) = false := by rfl) :
    Pw X (.Call (.Attribute o0 "index" apos) [e] [] pos) δ Q :=
  ⟨fun G H σ o k f => sE_of (pe_bm PySem.F.plainAttrs_list PySem.F.slot_list_index PySem.F.type_list_index mt_index pe_s (pa_cons pe_s pa_nil hs) hbase hfew hline hs hpl) (h.run G H σ o _ fun v1 d1 G1 H1 g1 r1 ⟨l, ed1, hh⟩ => by
    subst ed1
    cases r1 with
    | @lst a vs ds e1 z r =>
      refine ⟨.inl ⟨rfl, vs, .of (g1.sg _ _ e1)⟩, hh.run G1 H1 σ (o.grow g1) _ fun v d G' H' g' r2 ⟨y, j, ed2, hj, hno, q⟩ => ?_⟩
      subst ed2
      cases r2
      have ev : ∀ {vs : List V} {l : List Str}, DTs G1 vs (l.map D.str) → vs = l.map V.str := by
        intro vs
        induction vs with
        | nil => intro l r; cases l with
          | nil => rfl
          | cons _ _ => cases r
        | cons v vs ih => intro l r; cases l with
          | nil => cases r
          | cons s l => cases r with
            | cons h t => cases h; rw [ih t]; rfl
      have := ev r
      subst this
      refine ⟨a, l.map V.str, .str y, j, .str y, rfl, rfl, .of (g'.sg _ _ (g'.g _ _ e1)), rfl, ?_, by rw [List.getElem?_map, hj]; rfl, ?_, fun m z' hm hz' => ?_, f _ _ G' H' (g1.trans g') (.int _) q⟩
      · rw [List.all_eq_true]; intro z hz; obtain ⟨u, _, rfl⟩ := List.mem_map.mp hz; rfl
      · show (y == y) = true; simp
      · rw [List.getElem?_map] at hz'
        cases hm2 : l[m]? with
        | none => rw [hm2] at hz'; cases hz'
        | some u =>
          rw [hm2] at hz'
          cases hz'
          show (u == y) = false
          exact beq_eq_false_iff_ne.mpr fun e => hno m hm (by rw [hm2, e]))⟩
end
end AL
namespace AL
open PySem PySem.Spec PyProof.Rows L2

theorem sc_is_whole : FnScope ["value", "low", "high"] ["value", "low", "high"] (defScope s_is_whole) := ⟨rfl, rfl, rfl, by decide +kernel, rfl, by decide +kernel, by decide +kernel⟩
theorem sc_is_signature : FnScope ["value"] ["value"] (defScope s_is_signature) := ⟨rfl, rfl, rfl, by decide +kernel, rfl, by decide +kernel, by decide +kernel⟩
theorem sc_is_quantity : FnScope ["value"] ["value"] (defScope s_is_quantity) := ⟨rfl, rfl, rfl, by decide +kernel, rfl, by decide +kernel, by decide +kernel⟩
theorem sc_is_noun : FnScope ["signature", "value"] ["signature", "value"] (defScope s_is_noun) := ⟨rfl, rfl, rfl, by decide +kernel, rfl, by decide +kernel, by decide +kernel⟩
theorem sc_is_verb : FnScope ["signature", "value"] ["signature", "value"] (defScope s_is_verb) := ⟨rfl, rfl, rfl, by decide +kernel, rfl, by decide +kernel, by decide +kernel⟩
theorem sc_is_verb_sentence : FnScope ["signature", "value"] ["signature", "value"] (defScope s_is_verb_sentence) := ⟨rfl, rfl, rfl, by decide +kernel, rfl, by decide +kernel, by decide +kernel⟩
theorem sc_is_self_sentence : FnScope ["signature", "value"] ["signature", "value"] (defScope s_is_self_sentence) := ⟨rfl, rfl, rfl, by decide +kernel, rfl, by decide +kernel, by decide +kernel⟩
theorem sc_is_sentence : FnScope ["signature", "value"] ["signature", "value"] (defScope s_is_sentence) := ⟨rfl, rfl, rfl, by decide +kernel, rfl, by decide +kernel, by decide +kernel⟩
theorem sc_are_premises : FnScope ["signature", "value", "sentence"] ["signature", "value"] (defScope s_are_premises) := ⟨rfl, rfl, rfl, by decide +kernel, rfl, by decide +kernel, by decide +kernel⟩
theorem sc_check_signature : FnScope ["signature"] ["signature"] (defScope s_check_signature) := ⟨rfl, rfl, rfl, by decide +kernel, rfl, by decide +kernel, by decide +kernel⟩
theorem sc_check_premises : FnScope ["signature", "premises"] ["signature", "premises"] (defScope s_check_premises) := ⟨rfl, rfl, rfl, by decide +kernel, rfl, by decide +kernel, by decide +kernel⟩
theorem sc_steps_of_table : FnScope ["sub", "most", "more", "many", "x", "y", "other", "z"] ["sub", "most"] (defScope s_steps_of_table) := ⟨rfl, rfl, rfl, by decide +kernel, rfl, by decide +kernel, by decide +kernel⟩
theorem sc_table_of : FnScope ["signature", "premises", "sub", "most", "sentence", "before", "more", "many", "pair", "x"] ["signature", "premises"] (defScope s_table_of) := ⟨rfl, rfl, rfl, by decide +kernel, rfl, by decide +kernel, by decide +kernel⟩
theorem sc_stated_by : FnScope ["sentence", "word"] ["sentence"] (defScope s_stated_by) := ⟨rfl, rfl, rfl, by decide +kernel, rfl, by decide +kernel, by decide +kernel⟩
theorem sc_stated_kinds : FnScope ["premises", "found", "sentence", "kind"] ["premises"] (defScope s_stated_kinds) := ⟨rfl, rfl, rfl, by decide +kernel, rfl, by decide +kernel, by decide +kernel⟩
theorem sc_nouns_of : FnScope ["kind"] ["kind"] (defScope s_nouns_of) := ⟨rfl, rfl, rfl, by decide +kernel, rfl, by decide +kernel, by decide +kernel⟩
theorem sc_above : FnScope ["sub", "kind", "signature", "noun", "own"] ["sub", "kind", "signature"] (defScope s_above) := ⟨rfl, rfl, rfl, by decide +kernel, rfl, by decide +kernel, by decide +kernel⟩
theorem sc_required_nouns : FnScope ["signature", "premises", "sub", "most", "found", "kind", "noun", "asked", "sentence", "before", "known", "own"] ["signature", "premises"] (defScope s_required_nouns) := ⟨rfl, rfl, rfl, by decide +kernel, rfl, by decide +kernel, by decide +kernel⟩
theorem sc_required_kinds : FnScope ["signature", "premises", "found", "noun", "kind"] ["signature", "premises"] (defScope s_required_kinds) := ⟨rfl, rfl, rfl, by decide +kernel, rfl, by decide +kernel, by decide +kernel⟩
theorem sc_is_forced : FnScope ["signature", "premises", "sub", "verb", "first", "second", "does", "ones", "others", "sentence", "x", "y"] ["signature", "premises", "sub", "verb", "first", "second", "does"] (defScope s_is_forced) := ⟨rfl, rfl, rfl, by decide +kernel, rfl, by decide +kernel, by decide +kernel⟩
theorem sc_is_forced_self : FnScope ["signature", "premises", "sub", "verb", "kind", "does", "nouns", "sentence"] ["signature", "premises", "sub", "verb", "kind", "does"] (defScope s_is_forced_self) := ⟨rfl, rfl, rfl, by decide +kernel, rfl, by decide +kernel, by decide +kernel⟩
theorem sc_word_of : FnScope ["yes", "no"] ["yes", "no"] (defScope s_word_of) := ⟨rfl, rfl, rfl, by decide +kernel, rfl, by decide +kernel, by decide +kernel⟩
theorem sc_forced : FnScope ["signature", "premises", "sub", "verb", "first", "second", "told", "does"] ["signature", "premises", "sub", "verb", "first", "second"] (defScope s_forced) := ⟨rfl, rfl, rfl, by decide +kernel, rfl, by decide +kernel, by decide +kernel⟩
theorem sc_forced_self : FnScope ["signature", "premises", "sub", "verb", "kind", "told", "does"] ["signature", "premises", "sub", "verb", "kind"] (defScope s_forced_self) := ⟨rfl, rfl, rfl, by decide +kernel, rfl, by decide +kernel, by decide +kernel⟩
theorem sc_contrary : FnScope ["signature", "premises", "sub", "sentence", "kind", "does", "verb", "by", "other"] ["signature", "premises", "sub", "sentence", "kind"] (defScope s_contrary) := ⟨rfl, rfl, rfl, by decide +kernel, rfl, by decide +kernel, by decide +kernel⟩
theorem sc_is_contradicted : FnScope ["signature", "premises", "sentence", "tables", "kinds", "sub", "most", "wide", "word", "told", "near", "kind", "nouns"] ["signature", "premises", "sentence", "tables", "kinds"] (defScope s_is_contradicted) := ⟨rfl, rfl, rfl, by decide +kernel, rfl, by decide +kernel, by decide +kernel⟩
theorem sc_verb_conflicts : FnScope ["signature", "premises", "wide", "kinds", "verb", "found", "first", "second", "kind"] ["signature", "premises", "wide", "kinds", "verb"] (defScope s_verb_conflicts) := ⟨rfl, rfl, rfl, by decide +kernel, rfl, by decide +kernel, by decide +kernel⟩
theorem sc_conflicts_by : FnScope ["signature", "premises", "tables", "kinds", "found", "index", "sentence", "verb"] ["signature", "premises", "tables", "kinds"] (defScope s_conflicts_by) := ⟨rfl, rfl, rfl, by decide +kernel, rfl, by decide +kernel, by decide +kernel⟩
theorem sc_conflicts_of : FnScope ["signature", "premises", "sub", "most"] ["signature", "premises"] (defScope s_conflicts_of) := ⟨rfl, rfl, rfl, by decide +kernel, rfl, by decide +kernel, by decide +kernel⟩
theorem sc_can_hold : FnScope ["signature", "premises"] ["signature", "premises"] (defScope s_can_hold) := ⟨rfl, rfl, rfl, by decide +kernel, rfl, by decide +kernel, by decide +kernel⟩
theorem sc_is_plain : FnScope ["sub", "kind", "less"] ["sub", "kind"] (defScope s_is_plain) := ⟨rfl, rfl, rfl, by decide +kernel, rfl, by decide +kernel, by decide +kernel⟩
theorem sc_sizes_of : FnScope ["signature", "premises", "kinds", "sub", "most", "nouns", "sizes", "kind", "required", "levels", "size", "level", "open_kinds", "counts", "at", "noun", "other", "group", "many"] ["signature", "premises", "kinds"] (defScope s_sizes_of) := ⟨rfl, rfl, rfl, by decide +kernel, rfl, by decide +kernel, by decide +kernel⟩
theorem sc_done_to : FnScope ["words", "group", "found", "other", "word", "later"] ["words", "group"] (defScope s_done_to) := ⟨rfl, rfl, rfl, by decide +kernel, rfl, by decide +kernel, by decide +kernel⟩
theorem sc_model_of : FnScope ["signature", "premises", "kinds", "sub", "sizes", "many", "groups", "verbs", "selves", "verb", "words", "own", "group", "first", "second", "kind"] ["signature", "premises"] (defScope s_model_of) := ⟨rfl, rfl, rfl, by decide +kernel, rfl, by decide +kernel, by decide +kernel⟩
theorem sc_canonical_model : FnScope ["signature", "premises"] ["signature", "premises"] (defScope s_canonical_model) := ⟨rfl, rfl, rfl, by decide +kernel, rfl, by decide +kernel, by decide +kernel⟩
theorem sc_is_command : FnScope ["value", "signature"] ["value", "signature"] (defScope s_is_command) := ⟨rfl, rfl, rfl, by decide +kernel, rfl, by decide +kernel, by decide +kernel⟩
theorem sc_said_by : FnScope ["assertions", "speaker", "one", "sentence"] ["assertions", "speaker"] (defScope s_said_by) := ⟨rfl, rfl, rfl, by decide +kernel, rfl, by decide +kernel, by decide +kernel⟩
theorem sc_behind : FnScope ["assertions", "command"] ["assertions", "command"] (defScope s_behind) := ⟨rfl, rfl, rfl, by decide +kernel, rfl, by decide +kernel, by decide +kernel⟩
theorem sc_checked : FnScope ["signature", "assertions", "command", "later"] ["signature", "assertions", "command"] (defScope s_checked) := ⟨rfl, rfl, rfl, by decide +kernel, rfl, by decide +kernel, by decide +kernel⟩
theorem sc_law_stream : FnScope ["_law_script"] ["_law_script"] (defScope s_law_stream) := ⟨rfl, rfl, rfl, by decide +kernel, rfl, by decide +kernel, by decide +kernel⟩
theorem sc_law_next : FnScope ["_law_stream_here", "_law_many", "_law_k", "_law_cell", "_law_digit"] ["_law_stream_here", "_law_many"] (defScope s_law_next) := ⟨rfl, rfl, rfl, by decide +kernel, rfl, by decide +kernel, by decide +kernel⟩
theorem sc_law_is_integer : FnScope ["_law_actual"] ["_law_actual"] (defScope s_law_is_integer) := ⟨rfl, rfl, rfl, by decide +kernel, rfl, by decide +kernel, by decide +kernel⟩
theorem sc_law_equal : FnScope ["_law_actual", "_law_due", "_law_at"] ["_law_actual", "_law_due"] (defScope s_law_equal) := ⟨rfl, rfl, rfl, by decide +kernel, rfl, by decide +kernel, by decide +kernel⟩
theorem sc_law_noun_words : FnScope [] [] (defScope s_law_noun_words) := ⟨rfl, rfl, rfl, by decide +kernel, rfl, by decide +kernel, by decide +kernel⟩
theorem sc_law_sentence : FnScope ["_law_stream_here", "_law_signature_here", "_law_nouns", "_law_verbs", "_law_pick", "_law_one", "_law_other", "_law_words", "_law_verb", "_law_does"] ["_law_stream_here", "_law_signature_here"] (defScope s_law_sentence) := ⟨rfl, rfl, rfl, by decide +kernel, rfl, by decide +kernel, by decide +kernel⟩
theorem sc_law_signature : FnScope ["_law_stream_here"] ["_law_stream_here"] (defScope s_law_signature) := ⟨rfl, rfl, rfl, by decide +kernel, rfl, by decide +kernel, by decide +kernel⟩
theorem sc_law_having : FnScope ["_law_model", "_law_noun", "_law_at"] ["_law_model", "_law_noun"] (defScope s_law_having) := ⟨rfl, rfl, rfl, by decide +kernel, rfl, by decide +kernel, by decide +kernel⟩
theorem sc_law_size : FnScope ["_law_model", "_law_noun", "_law_at"] ["_law_model", "_law_noun"] (defScope s_law_size) := ⟨rfl, rfl, rfl, by decide +kernel, rfl, by decide +kernel, by decide +kernel⟩
theorem sc_law_seen : FnScope ["_law_model", "_law_group", "_law_verb", "_law_by", "_law_noun", "_law_found", "_law_other", "_law_pair"] ["_law_model", "_law_group", "_law_verb", "_law_by", "_law_noun"] (defScope s_law_seen) := ⟨rfl, rfl, rfl, by decide +kernel, rfl, by decide +kernel, by decide +kernel⟩
theorem sc_law_says : FnScope ["_law_model", "_law_sentence_here", "_law_group", "_law_told_here", "_law_one"] ["_law_model", "_law_sentence_here", "_law_group"] (defScope s_law_says) := ⟨rfl, rfl, rfl, by decide +kernel, rfl, by decide +kernel, by decide +kernel⟩
theorem sc_law_holds : FnScope ["_law_model", "_law_sentence_here", "_law_word", "_law_told_here", "_law_group"] ["_law_model", "_law_sentence_here"] (defScope s_law_holds) := ⟨rfl, rfl, rfl, by decide +kernel, rfl, by decide +kernel, by decide +kernel⟩
theorem sc_law_satisfies : FnScope ["_law_model", "_law_premises", "_law_sentence_here"] ["_law_model", "_law_premises"] (defScope s_law_satisfies) := ⟨rfl, rfl, rfl, by decide +kernel, rfl, by decide +kernel, by decide +kernel⟩
theorem sc_law_said : FnScope ["_law_assertions", "_law_speaker", "_law_one", "_law_sentence_here"] ["_law_assertions", "_law_speaker"] (defScope s_law_said) := ⟨rfl, rfl, rfl, by decide +kernel, rfl, by decide +kernel, by decide +kernel⟩
theorem sc_law_command : FnScope ["_law_stream_here", "_law_signature_here"] ["_law_stream_here", "_law_signature_here"] (defScope s_law_command) := ⟨rfl, rfl, rfl, by decide +kernel, rfl, by decide +kernel, by decide +kernel⟩
theorem sc_law_behind : FnScope ["_law_assertions", "_law_command_here"] ["_law_assertions", "_law_command_here"] (defScope s_law_behind) := ⟨rfl, rfl, rfl, by decide +kernel, rfl, by decide +kernel, by decide +kernel⟩
theorem sc_law_why_not : FnScope ["_law_signature_here", "_law_assertions", "_law_command_here", "_law_said_here"] ["_law_signature_here", "_law_assertions", "_law_command_here"] (defScope s_law_why_not) := ⟨rfl, rfl, rfl, by decide +kernel, rfl, by decide +kernel, by decide +kernel⟩
theorem sc_law_told : FnScope ["_law_debate", "_law_command_here", "e"] ["_law_debate", "_law_command_here"] (defScope s_law_told) := ⟨rfl, rfl, rfl, by decide +kernel, rfl, by decide +kernel, by decide +kernel⟩
theorem sc_law_canonical : FnScope ["_law_signature_here", "_law_premises", "e"] ["_law_signature_here", "_law_premises"] (defScope s_law_canonical) := ⟨rfl, rfl, rfl, by decide +kernel, rfl, by decide +kernel, by decide +kernel⟩
theorem sc_law : FnScope ["_law_script", "_law_stream_here", "_law_signature_here", "_law_debate", "_law_state", "_law_journal", "_law_turn", "_law_command_here", "_law_due", "_law_here", "_law_model", "_law_speaker"] ["_law_script"] (defScope s_law) := ⟨rfl, rfl, rfl, by decide +kernel, rfl, by decide +kernel, by decide +kernel⟩
theorem sc_BadValue_init : FnScope ["self", "name"] ["self", "name"] (defScope s_BadValue_init) := ⟨rfl, rfl, rfl, by decide +kernel, rfl, by decide +kernel, by decide +kernel⟩
theorem sc_TooLarge_init : FnScope ["self", "what"] ["self", "what"] (defScope s_TooLarge_init) := ⟨rfl, rfl, rfl, by decide +kernel, rfl, by decide +kernel, by decide +kernel⟩
theorem sc_NotPossible_init : FnScope ["self", "why"] ["self", "why"] (defScope s_NotPossible_init) := ⟨rfl, rfl, rfl, by decide +kernel, rfl, by decide +kernel, by decide +kernel⟩
theorem sc_Debate_init : FnScope ["self", "signature"] ["self", "signature"] (defScope s_Debate_init) := ⟨rfl, rfl, rfl, by decide +kernel, rfl, by decide +kernel, by decide +kernel⟩
theorem sc_Debate_act : FnScope ["self", "command", "later"] ["self", "command"] (defScope s_Debate_act) := ⟨rfl, rfl, rfl, by decide +kernel, rfl, by decide +kernel, by decide +kernel⟩
theorem sc_Debate_assertions : FnScope ["self"] ["self"] (defScope s_Debate_assertions) := ⟨rfl, rfl, rfl, by decide +kernel, rfl, by decide +kernel, by decide +kernel⟩
theorem sc_Debate_sentences : FnScope ["self", "speaker"] ["self", "speaker"] (defScope s_Debate_sentences) := ⟨rfl, rfl, rfl, by decide +kernel, rfl, by decide +kernel, by decide +kernel⟩
theorem sc_Debate_journal : FnScope ["self"] ["self"] (defScope s_Debate_journal) := ⟨rfl, rfl, rfl, by decide +kernel, rfl, by decide +kernel, by decide +kernel⟩
theorem sc_Debate_records : FnScope ["self", "found", "at", "command", "model"] ["self"] (defScope s_Debate_records) := ⟨rfl, rfl, rfl, by decide +kernel, rfl, by decide +kernel, by decide +kernel⟩

/-- what the top has written: the defs, the built-in names that are free -/
structure Txt (K : PySem.W.Frag) (mg : Str → Option Value) : Prop where
  d_is_whole : Df K mg "is_whole" s_is_whole
  d_is_signature : Df K mg "is_signature" s_is_signature
  d_is_quantity : Df K mg "is_quantity" s_is_quantity
  d_is_noun : Df K mg "is_noun" s_is_noun
  d_is_verb : Df K mg "is_verb" s_is_verb
  d_is_verb_sentence : Df K mg "is_verb_sentence" s_is_verb_sentence
  d_is_self_sentence : Df K mg "is_self_sentence" s_is_self_sentence
  d_is_sentence : Df K mg "is_sentence" s_is_sentence
  d_are_premises : Df K mg "are_premises" s_are_premises
  d_check_signature : Df K mg "check_signature" s_check_signature
  d_check_premises : Df K mg "check_premises" s_check_premises
  d_steps_of_table : Df K mg "steps_of_table" s_steps_of_table
  d_table_of : Df K mg "table_of" s_table_of
  d_stated_by : Df K mg "stated_by" s_stated_by
  d_stated_kinds : Df K mg "stated_kinds" s_stated_kinds
  d_nouns_of : Df K mg "nouns_of" s_nouns_of
  d_above : Df K mg "above" s_above
  d_required_nouns : Df K mg "required_nouns" s_required_nouns
  d_required_kinds : Df K mg "required_kinds" s_required_kinds
  d_is_forced : Df K mg "is_forced" s_is_forced
  d_is_forced_self : Df K mg "is_forced_self" s_is_forced_self
  d_word_of : Df K mg "word_of" s_word_of
  d_forced : Df K mg "forced" s_forced
  d_forced_self : Df K mg "forced_self" s_forced_self
  d_contrary : Df K mg "contrary" s_contrary
  d_is_contradicted : Df K mg "is_contradicted" s_is_contradicted
  d_verb_conflicts : Df K mg "verb_conflicts" s_verb_conflicts
  d_conflicts_by : Df K mg "conflicts_by" s_conflicts_by
  d_conflicts_of : Df K mg "conflicts_of" s_conflicts_of
  d_can_hold : Df K mg "can_hold" s_can_hold
  d_is_plain : Df K mg "is_plain" s_is_plain
  d_sizes_of : Df K mg "sizes_of" s_sizes_of
  d_done_to : Df K mg "done_to" s_done_to
  d_model_of : Df K mg "model_of" s_model_of
  d_canonical_model : Df K mg "canonical_model" s_canonical_model
  d_is_command : Df K mg "is_command" s_is_command
  d_said_by : Df K mg "said_by" s_said_by
  d_behind : Df K mg "behind" s_behind
  d_checked : Df K mg "checked" s_checked
  d_law_stream : Df K mg "_law_stream" s_law_stream
  d_law_next : Df K mg "_law_next" s_law_next
  d_law_is_integer : Df K mg "_law_is_integer" s_law_is_integer
  d_law_equal : Df K mg "_law_equal" s_law_equal
  d_law_noun_words : Df K mg "_law_noun_words" s_law_noun_words
  d_law_sentence : Df K mg "_law_sentence" s_law_sentence
  d_law_signature : Df K mg "_law_signature" s_law_signature
  d_law_having : Df K mg "_law_having" s_law_having
  d_law_size : Df K mg "_law_size" s_law_size
  d_law_seen : Df K mg "_law_seen" s_law_seen
  d_law_says : Df K mg "_law_says" s_law_says
  d_law_holds : Df K mg "_law_holds" s_law_holds
  d_law_satisfies : Df K mg "_law_satisfies" s_law_satisfies
  d_law_said : Df K mg "_law_said" s_law_said
  d_law_command : Df K mg "_law_command" s_law_command
  d_law_behind : Df K mg "_law_behind" s_law_behind
  d_law_why_not : Df K mg "_law_why_not" s_law_why_not
  d_law_told : Df K mg "_law_told" s_law_told
  d_law_canonical : Df K mg "_law_canonical" s_law_canonical
  d_law : Df K mg "law" s_law
  b_abs : mg "abs" = none
  b_all : mg "all" = none
  b_any : mg "any" = none
  b_bool : mg "bool" = none
  b_enumerate : mg "enumerate" = none
  b_int : mg "int" = none
  b_isinstance : mg "isinstance" = none
  b_len : mg "len" = none
  b_list : mg "list" = none
  b_max : mg "max" = none
  b_min : mg "min" = none
  b_range : mg "range" = none
  b_set : mg "set" = none
  b_sorted : mg "sorted" = none
  b_str : mg "str" = none
  b_sum : mg "sum" = none
  b_tuple : mg "tuple" = none
  c_MOST_NOUNS : ∃ t, mg "MOST_NOUNS" = some (.int 4 t)
  c_MOST_VERBS : ∃ t, mg "MOST_VERBS" = some (.int 2 t)
  c_MOST_PREMISES : ∃ t, mg "MOST_PREMISES" = some (.int 8 t)
  c_QUANTITIES : GT K mg "QUANTITIES" ["all", "some"]
  c_TWO_NOUNS : GT K mg "TWO_NOUNS" ["all", "some not", "no", "some", "as many", "fewer"]
  c_COPIES : GI K mg "COPIES" [0, 1, 2]
  c_MOST_SPEAKER : ∃ t, mg "MOST_SPEAKER" = some (.int 5 t)
  c_MOST_ASSERTIONS : ∃ t, mg "MOST_ASSERTIONS" = some (.int 8 t)
  c_MOST_COMMANDS : ∃ t, mg "MOST_COMMANDS" = some (.int 20 t)
end AL
namespace Mi
inductive Sen where
  | all (x y : Int) | snot (x y : Int) | no (x y : Int) | some (x y : Int) | many (x y : Int) | fewer (x y : Int)
  | verb (q : Bool) (x : Int) (does : Bool) (v : Int) (by_ : Bool) (p : Bool) (y : Int)
  | self (q : Bool) (x : Int) (does : Bool) (v : Int)
  deriving DecidableEq
inductive Kd where
  | one (x : Int) | both (x y : Int) | mark (x : Int) (does : Bool) (v : Int) (by_ : Bool) (y : Int) | self (x : Int) (does : Bool) (v : Int)
  deriving DecidableEq
def Nn (n : Nat) (x : Int) : Prop := 0 ≤ x ∧ x < n
/-- a sentence of the signature (n, m) -/
def Sen.ok (n m : Nat) : Sen → Prop
  | .all x y => Nn n x ∧ Nn n y | .snot x y => Nn n x ∧ Nn n y | .no x y => Nn n x ∧ Nn n y | .some x y => Nn n x ∧ Nn n y | .many x y => Nn n x ∧ Nn n y | .fewer x y => Nn n x ∧ Nn n y
  | .verb _ x _ v _ _ y => Nn n x ∧ Nn n y ∧ Nn m v
  | .self _ x _ v => Nn n x ∧ Nn m v
abbrev Tab := List (Int × Int)
def has (t : Tab) (x y : Int) : Bool := decide ((x, y) ∈ t)
def put {α : Type} [DecidableEq α] (l : List α) (k : α) : List α := if k ∈ l then l else l ++ [k]
def rgI (n : Nat) : List Int := (List.range n).map fun (i : Nat) => (i : Int)

def chain (t : Tab) : Tab := t.flatMap fun p => t.filterMap fun q => if q.1 = p.2 then Option.some (p.1, q.2) else none
def moreOf (s m : Tab) : Tab := chain s ++ s.filterMap fun p => if p ∈ m then Option.some (p.2, p.1) else none
def manyOf (s m : Tab) : Tab := s.map (fun p => (p.2, p.1)) ++ chain m
def tstep (s m : Tab) : Tab × Tab := ((moreOf s m).foldl put s, (manyOf s m).foldl put m)
def tfix : Nat → Tab → Tab → Tab × Tab
  | 0, s, m => (s, m)
  | f + 1, s, m => if (tstep s m).1.length + (tstep s m).2.length > s.length + m.length then tfix f (tstep s m).1 (tstep s m).2 else tstep s m
def sub0 (n : Nat) : Tab := (rgI n).map fun x => (x, x)
def subPut (s : Tab) : Sen → Tab
  | .all x y => put s (x, y) | _ => s
def mostPut (m : Tab) : Sen → Tab
  | .many x y => put m (x, y) | .fewer x y => put m (y, x) | _ => m
def tableOf (n : Nat) (ps : List Sen) : Tab × Tab := tfix (2 * n * n + 1) (ps.foldl subPut (sub0 n)) (ps.foldl mostPut [])

def stated : Sen → List Kd
  | .some x y => if x = y then [.one x] else [.both (if y < x then y else x) (if y > x then y else x)]
  | .snot x _ => [.one x]
  | .fewer _ y => [.one y]
  | .self false x d v => [.self x d v]
  | .verb false x _ _ _ false y => [.one x, .one y]
  | .verb false x d v b true y => [.mark x d v b y]
  | _ => []
def statedKinds (ps : List Sen) : List Kd := (ps.flatMap stated).foldl put []
def nounsOf : Kd → List Int
  | .one x => [x] | .both x y => [x, y] | .mark x _ _ _ _ => [x] | .self x _ _ => [x]
def above (s : Tab) (k : Kd) (n : Nat) : List Int := (rgI n).filter fun z => (nounsOf k).any fun o => has s o z
def asks : Sen → Bool
  | .verb true _ _ _ _ false _ => true | _ => false
def askPut (f : List Int) : Sen → List Int
  | .verb _ x _ _ _ _ y => if x ∈ f then put f y else f
  | _ => f
def rstep (n : Nat) (s m : Tab) (asked : List Sen) (f : List Int) : List Int :=
  asked.foldl askPut ((rgI n).foldl (fun g z => if f.any (fun o => has s o z || has m z o) then put g z else g) f)
def rfix (n : Nat) (s m : Tab) (asked : List Sen) : Nat → List Int → List Int
  | 0, f => f
  | k + 1, f => if (rstep n s m asked f).length > f.length then rfix n s m asked k (rstep n s m asked f) else rstep n s m asked f
def found0 (n : Nat) (s : Tab) (ps : List Sen) : List Int := ((statedKinds ps).flatMap fun k => above s k n).foldl put []
def requiredNouns (n : Nat) (ps : List Sen) : List Int :=
  (rgI n).filter fun z => decide (z ∈ rfix n (tableOf n ps).1 (tableOf n ps).2 (ps.filter asks) (n + 1) (found0 n (tableOf n ps).1 ps))
def isOne : Kd → Bool
  | .one _ => true | _ => false
def requiredKinds (n : Nat) (ps : List Sen) : List Kd := (requiredNouns n ps).map .one ++ (statedKinds ps).filter fun k => !isOne k
def forcedBy (ones others : List Int) (v : Int) (does : Bool) : Sen → Bool
  | .verb true x d v' b true y => decide (d = does) && decide (v' = v) && (if b then decide (y ∈ ones) && decide (x ∈ others) else decide (x ∈ ones) && decide (y ∈ others))
  | _ => false
def markBy (ys : List Int) (v : Int) (does b : Bool) : Kd → Bool
  | .mark _ d v' b' y => decide (d = does) && decide (v' = v) && decide (b' = b) && decide (y ∈ ys)
  | _ => false
def isForced (n : Nat) (ps : List Sen) (s : Tab) (v : Int) (f g : Kd) (does : Bool) : Bool :=
  ps.any (forcedBy (above s f n) (above s g n) v does) || markBy (above s g n) v does false f || markBy (above s f n) v does true g
def selfBy (nouns : List Int) (v : Int) (does : Bool) : Sen → Bool
  | .self true x d v' => decide (d = does) && decide (v' = v) && decide (x ∈ nouns)
  | _ => false
def selfKind (v : Int) (does : Bool) : Kd → Bool
  | .self _ d v' => decide (d = does) && decide (v' = v)
  | _ => false
def isForcedSelf (n : Nat) (ps : List Sen) (s : Tab) (v : Int) (k : Kd) (does : Bool) : Bool :=
  isForced n ps s v k k does || ps.any (selfBy (above s k n) v does) || selfKind v does k
inductive Wd where
  | yes | no | both | free
  deriving DecidableEq
def wordOf (y n : Bool) : Wd := if y then (if n then .both else .yes) else if n then .no else .free
def forced (n : Nat) (ps : List Sen) (s : Tab) (v : Int) (f g : Kd) : Wd := wordOf (isForced n ps s v f g true) (isForced n ps s v f g false)
def forcedSelf (n : Nat) (ps : List Sen) (s : Tab) (v : Int) (k : Kd) : Wd := wordOf (isForcedSelf n ps s v k true) (isForcedSelf n ps s v k false)

def contrary (n : Nat) (ps : List Sen) (s : Tab) (x : Sen) (k : Kd) : Bool := match x with
  | .verb _ _ d v b _ y => if b then isForced n ps s v (.one y) k (!d) else isForced n ps s v k (.one y) (!d)
  | _ => false
def isContradicted (n : Nat) (ps : List Sen) (s m : Tab) (ks : List Kd) (x : Sen) : Bool := match x with
  | .no a b => ks.any fun k => decide (a ∈ above s k n) && decide (b ∈ above s k n)
  | .snot a b => has s a b
  | .fewer a b => has m a b
  | .verb true a _ _ _ false _ => (ks.filter fun k => decide (a ∈ above s k n)).any fun k => contrary n ps s x k
  | .verb false a _ _ _ false _ => contrary n ps s x (.one a)
  | _ => false
inductive Conf where
  | premise (i : Nat) | pair (v : Int) (f g : Kd) | self (v : Int) (k : Kd)
def verbConflicts (n : Nat) (ps : List Sen) (s : Tab) (ks : List Kd) (v : Int) : List Conf :=
  (ks.flatMap fun f => ks.filterMap fun g => if forced n ps s v f g = .both then Option.some (.pair v f g) else none) ++
    ks.filterMap fun k => if forcedSelf n ps s v k = .both then Option.some (.self v k) else none
def conflictsOf (n m : Nat) (ps : List Sen) : List Conf :=
  (ps.zipIdx.filterMap fun p => if isContradicted n ps (tableOf n ps).1 (tableOf n ps).2 (requiredKinds n ps) p.1 then Option.some (.premise p.2) else none) ++
    (rgI m).flatMap fun v => verbConflicts n ps (tableOf n ps).1 (requiredKinds n ps) v

def isPlain (s : Tab) : Kd → Bool
  | .one x => !((rgI x.toNat).any fun l => has s l x && has s x l)
  | _ => false
def nounOf : Kd → Int
  | .one x => x | .both x _ => x | .mark x _ _ _ _ => x | .self x _ _ => x
def sizes0 (s : Tab) (ks : List Kd) : List Int := ks.flatMap fun k => [if isPlain s k then 0 else 1, 1, 1]
def levelOf (m : Tab) (req : List Int) (x : Int) : Int := ((req.filter fun o => has m x o).length : Int)
/-- the sum of the sizes of the groups with a noun -/
def countIn (n : Nat) (s : Tab) (ks : List Kd) (sz : List Int) (x : Int) : Int :=
  (sz.zipIdx.filterMap fun p => if x ∈ above s (ks.getD (p.2 / 3) (.one 0)) n then Option.some p.1 else none).sum
def openAt (s m : Tab) (req : List Int) (ks : List Kd) (lv : Int) : List Nat :=
  ks.zipIdx.filterMap fun p => if isPlain s p.1 && decide (levelOf m req (nounOf p.1) = lv) then Option.some p.2 else none
def maxOf (a : Int) (l : List Int) : Int := l.foldl max a
/-- one level -/
def level (n : Nat) (s m : Tab) (ks : List Kd) (req : List Int) (st : Int × List Int) (lv : Int) : Int × List Int :=
  let cs := (openAt s m req ks lv).map fun a => (a, countIn n s ks st.2 (nounOf (ks.getD a (.one 0))))
  let size := 1 + maxOf st.1 (cs.map (·.2))
  (size, cs.foldl (fun sz c => sz.set (3 * c.1) (size - c.2)) st.2)
def levels (m : Tab) (req : List Int) : List Int := (rgI (req.length + 1)).filter fun l => decide (l ∈ req.map (levelOf m req))
def ones (ks : List Kd) : List Int := ks.filterMap fun k => match k with | .one x => Option.some x | _ => none
def sizesOf (n : Nat) (s m : Tab) (ks : List Kd) : List Int :=
  ((levels m (ones ks)).foldl (level n s m ks (ones ks)) (0, sizes0 s ks)).2
def doneTo (ws : List Wd) (g : Nat) : List Int :=
  ws.zipIdx.flatMap fun p => [0, 1, 2].filterMap fun (l : Nat) => if p.1 = .yes ∨ (p.1 = .free ∧ l = (g + 1) % 3) then Option.some ((3 * p.2 + l : Nat) : Int) else none
structure Model where
  groups : List (Int × List Int)
  verbs : List (List (List Int))
  selves : List (List Int)
def modelOf (n m : Nat) (ps : List Sen) : Model :=
  let ks := requiredKinds n ps
  let s := (tableOf n ps).1
  let sz := sizesOf n s (tableOf n ps).2 ks
  { groups := sz.zipIdx.map fun p => (p.1, above s (ks.getD (p.2 / 3) (.one 0)) n)
    verbs := (rgI m).map fun v => (List.range sz.length).map fun g => doneTo (ks.map fun h => forced n ps s v (ks.getD (g / 3) (.one 0)) h) g
    selves := (rgI m).map fun v => (List.range sz.length).filterMap fun (g : Nat) => if forcedSelf n ps s v (ks.getD (g / 3) (.one 0)) = .yes then Option.some (g : Int) else none }
end Mi
namespace AL
open PySem PySem.Spec PyProof.Rows L2 Mi
def sigD (n m : Nat) : D := .tup [.int (n : Int), .int (m : Int)]
def qD (q : Bool) : D := match q with
  | true => .str "all" | false => .str "some"
def senD : Sen → D
  | .all x y => .tup [.str "all", .int x, .int y]
  | .snot x y => .tup [.str "some not", .int x, .int y]
  | .no x y => .tup [.str "no", .int x, .int y]
  | .some x y => .tup [.str "some", .int x, .int y]
  | .many x y => .tup [.str "as many", .int x, .int y]
  | .fewer x y => .tup [.str "fewer", .int x, .int y]
  | .verb q x d v b p y => .tup [.str "verb", qD q, .int x, .bl d, .int v, .bl b, qD p, .int y]
  | .self q x d v => .tup [.str "self", qD q, .int x, .bl d, .int v]
def kindD : Kd → D
  | .one x => .tup [.str "one", .int x]
  | .both x y => .tup [.str "both", .int x, .int y]
  | .mark x d v b y => .tup [.str "mark", .int x, .bl d, .int v, .bl b, .int y]
  | .self x d v => .tup [.str "self", .int x, .bl d, .int v]
def sensD (ps : List Sen) : D := .tup (ps.map senD)
def intsD (l : List Int) : D := .tup (l.map .int)
def wdD : Wd → D
  | .yes => .str "yes" | .no => .str "no" | .both => .str "both" | .free => .str "free"
def confD : Conf → D
  | .premise i => .tup [.str "premise", .int (i : Int)]
  | .pair v f g => .tup [.str "pair", .int v, kindD f, kindD g]
  | .self v k => .tup [.str "self", .int v, kindD k]
/-- a signature of the program -/
def SigOk (n m : Nat) : Prop := 1 ≤ n ∧ n ≤ 4 ∧ m ≤ 2
end AL
namespace Mi
section
variable {α : Type} [DecidableEq α]
theorem mem_put {l : List α} {k x : α} : x ∈ put l k ↔ x ∈ l ∨ x = k := by
  unfold put
  split
  · exact ⟨.inl, fun h => h.elim id fun e => by rw [e]; assumption⟩
  · simp
theorem nodup_put {l : List α} {k : α} (h : l.Nodup) : (put l k).Nodup := by
  unfold put
  split
  · exact h
  · rename_i hk
    rw [List.nodup_append]
    exact ⟨h, by simp, fun a ha b hb e => by simp at hb; subst hb; subst e; exact hk ha⟩
theorem len_put {l : List α} {k : α} : l.length ≤ (put l k).length := by
  unfold put
  split <;> simp
theorem mem_puts {x : α} : ∀ {ks l : List α}, x ∈ ks.foldl put l ↔ x ∈ l ∨ x ∈ ks
  | [], l => by simp
  | k :: ks, l => by rw [List.foldl_cons, mem_puts, mem_put]; simp [or_assoc]
theorem nodup_puts : ∀ {ks l : List α}, l.Nodup → (ks.foldl put l).Nodup
  | [], _, h => h
  | k :: ks, l, h => nodup_puts (l := put l k) (nodup_put h)
theorem len_puts : ∀ {ks l : List α}, l.length ≤ (ks.foldl put l).length
  | [], _ => Nat.le_refl _
  | _ :: _, _ => Nat.le_trans len_put len_puts
theorem puts_same : ∀ {ks l : List α}, (∀ k ∈ ks, k ∈ l) → ks.foldl put l = l
  | [], _, _ => rfl
  | k :: ks, l, h => by
    rw [List.foldl_cons]
    have e : put l k = l := if_pos (h k (by simp))
    rw [e]
    exact puts_same fun x hx => h x (by simp [hx])
/-- nothing new: all was there -/
theorem puts_len_same : ∀ {ks l : List α}, (ks.foldl put l).length = l.length → ∀ k ∈ ks, k ∈ l
  | [], _, _ => by simp
  | k :: ks, l, h => by
    rw [List.foldl_cons] at h
    have h1 : (put l k).length = l.length := Nat.le_antisymm (h ▸ len_puts) len_put
    have hk : k ∈ l := by
      unfold put at h1
      split at h1
      · assumption
      · simp at h1
    have e : put l k = l := if_pos hk
    rw [e] at h
    intro x hx
    rcases List.mem_cons.mp hx with rfl | hx
    · exact hk
    · exact puts_len_same h x hx
theorem nodup_sub_len : ∀ {l m : List α}, l.Nodup → (∀ x ∈ l, x ∈ m) → l.length ≤ m.length
  | [], _, _, _ => Nat.zero_le _
  | a :: l, m, h, s => by
    rw [List.nodup_cons] at h
    have ha : a ∈ m := s a (by simp)
    have h1 := nodup_sub_len (m := m.erase a) h.2 fun x hx => (List.mem_erase_of_ne (fun e => h.1 (by rw [← e]; exact hx))).mpr (s x (by simp [hx]))
    have h2 := List.length_erase_of_mem ha
    have h3 := List.length_pos_of_mem ha
    simp only [List.length_cons]
    omega
end
theorem mem_rgI {n : Nat} {x : Int} : x ∈ rgI n ↔ Nn n x := by
  unfold rgI Nn
  rw [List.mem_map]
  constructor
  · rintro ⟨i, hi, rfl⟩
    have := List.mem_range.mp hi
    omega
  · rintro ⟨h1, h2⟩
    exact ⟨x.toNat, List.mem_range.mpr (by omega), by omega⟩
theorem len_rgI (n : Nat) : (rgI n).length = n := by simp [rgI]
theorem nodup_rgI (n : Nat) : (rgI n).Nodup := by
  unfold rgI
  rw [List.Nodup, List.pairwise_map]
  exact List.nodup_range.imp fun h e => h (by omega)
theorem sorted_rgI (n : Nat) : (rgI n).Pairwise (· < ·) := by
  unfold rgI
  rw [List.pairwise_map]
  exact List.pairwise_lt_range.imp fun h => by omega
/-- a table of the signature's nouns -/
structure TabOk (n : Nat) (t : Tab) : Prop where
  nd : t.Nodup
  rg : ∀ p ∈ t, Nn n p.1 ∧ Nn n p.2
theorem TabOk.len {n : Nat} {t : Tab} (h : TabOk n t) : t.length ≤ n * n := by
  have := nodup_sub_len (m := (rgI n).flatMap fun a => (rgI n).map fun b => (a, b)) h.nd fun p hp => by
    rw [List.mem_flatMap]
    exact ⟨p.1, mem_rgI.mpr (h.rg p hp).1, List.mem_map.mpr ⟨p.2, mem_rgI.mpr (h.rg p hp).2, rfl⟩⟩
  refine Nat.le_trans this (Nat.le_of_eq ?_)
  rw [List.length_flatMap]
  simp only [List.length_map, len_rgI, List.map_const']
  simp
theorem TabOk.puts {n : Nat} {t ks : Tab} (h : TabOk n t) (hk : ∀ p ∈ ks, Nn n p.1 ∧ Nn n p.2) : TabOk n (ks.foldl put t) :=
  ⟨nodup_puts h.nd, fun p hp => (mem_puts.mp hp).elim (h.rg p) (hk p)⟩
theorem TabOk.put1 {n : Nat} {t : Tab} {k : Int × Int} (h : TabOk n t) (hk : Nn n k.1 ∧ Nn n k.2) : TabOk n (put t k) :=
  ⟨nodup_put h.nd, fun p hp => (mem_put.mp hp).elim (h.rg p) fun e => e ▸ hk⟩
theorem mem_chain {t : Tab} {p : Int × Int} : p ∈ chain t ↔ ∃ y, (p.1, y) ∈ t ∧ (y, p.2) ∈ t := by
  unfold chain
  rw [List.mem_flatMap]
  constructor
  · rintro ⟨a, ha, h⟩
    rw [List.mem_filterMap] at h
    obtain ⟨b, hb, e⟩ := h
    split at e
    · rename_i hab
      cases e
      refine ⟨a.2, ha, ?_⟩
      rw [← hab]
      exact hb
    · cases e
  · rintro ⟨y, h1, h2⟩
    refine ⟨(p.1, y), h1, List.mem_filterMap.mpr ⟨(y, p.2), h2, ?_⟩⟩
    simp
theorem mem_moreOf {s m : Tab} {p : Int × Int} : p ∈ moreOf s m ↔ (∃ y, (p.1, y) ∈ s ∧ (y, p.2) ∈ s) ∨ ((p.2, p.1) ∈ s ∧ (p.2, p.1) ∈ m) := by
  unfold moreOf
  rw [List.mem_append, mem_chain, List.mem_filterMap]
  apply or_congr Iff.rfl
  constructor
  · rintro ⟨a, ha, e⟩
    split at e
    · cases e; exact ⟨ha, by assumption⟩
    · cases e
  · rintro ⟨h1, h2⟩
    exact ⟨(p.2, p.1), h1, by rw [if_pos h2]⟩
theorem mem_manyOf {s m : Tab} {p : Int × Int} : p ∈ manyOf s m ↔ (p.2, p.1) ∈ s ∨ ∃ y, (p.1, y) ∈ m ∧ (y, p.2) ∈ m := by
  unfold manyOf
  rw [List.mem_append, mem_chain, List.mem_map]
  apply or_congr _ Iff.rfl
  constructor
  · rintro ⟨a, ha, e⟩; cases e; exact ha
  · intro h; exact ⟨(p.2, p.1), h, rfl⟩
theorem more_rg {n : Nat} {s m : Tab} (hs : TabOk n s) : ∀ p ∈ moreOf s m, Nn n p.1 ∧ Nn n p.2 := by
  intro p hp
  rcases mem_moreOf.mp hp with ⟨y, h1, h2⟩ | ⟨h1, h2⟩
  · exact ⟨(hs.rg _ h1).1, (hs.rg _ h2).2⟩
  · exact ⟨(hs.rg _ h1).2, (hs.rg _ h1).1⟩
theorem many_rg {n : Nat} {s m : Tab} (hs : TabOk n s) (hm : TabOk n m) : ∀ p ∈ manyOf s m, Nn n p.1 ∧ Nn n p.2 := by
  intro p hp
  rcases mem_manyOf.mp hp with h1 | ⟨y, h1, h2⟩
  · exact ⟨(hs.rg _ h1).2, (hs.rg _ h1).1⟩
  · exact ⟨(hm.rg _ h1).1, (hm.rg _ h2).2⟩
theorem tstep_ok {n : Nat} {s m : Tab} (hs : TabOk n s) (hm : TabOk n m) : TabOk n (tstep s m).1 ∧ TabOk n (tstep s m).2 := ⟨hs.puts (more_rg hs), hm.puts (many_rg hs hm)⟩
theorem sub0_ok (n : Nat) : TabOk n (sub0 n) := by
  refine ⟨?_, fun p hp => ?_⟩
  · unfold sub0
    rw [List.Nodup, List.pairwise_map]
    exact (nodup_rgI n).imp fun h e => h (congrArg Prod.fst e)
  · obtain ⟨x, hx, rfl⟩ := List.mem_map.mp hp
    exact ⟨mem_rgI.mp hx, mem_rgI.mp hx⟩
theorem subPut_ok {n m : Nat} {t : Tab} {x : Sen} (h : TabOk n t) (hx : x.ok n m) : TabOk n (subPut t x) := by
  cases x <;> first | exact h | exact h.put1 ⟨hx.1, hx.2⟩
theorem mostPut_ok {n m : Nat} {t : Tab} {x : Sen} (h : TabOk n t) (hx : x.ok n m) : TabOk n (mostPut t x) := by
  cases x <;> first | exact h | exact h.put1 ⟨hx.1, hx.2⟩ | exact h.put1 ⟨hx.2, hx.1⟩
theorem subs_ok {n m : Nat} : ∀ {ps : List Sen} {t : Tab}, TabOk n t → (∀ x ∈ ps, x.ok n m) → TabOk n (ps.foldl subPut t)
  | [], _, h, _ => h
  | x :: ps, t, h, hx => subs_ok (t := subPut t x) (subPut_ok h (hx x (by simp))) fun y hy => hx y (by simp [hy])
theorem mosts_ok {n m : Nat} : ∀ {ps : List Sen} {t : Tab}, TabOk n t → (∀ x ∈ ps, x.ok n m) → TabOk n (ps.foldl mostPut t)
  | [], _, h, _ => h
  | x :: ps, t, h, hx => mosts_ok (t := mostPut t x) (mostPut_ok h (hx x (by simp))) fun y hy => hx y (by simp [hy])
theorem nil_ok (n : Nat) : TabOk n [] := ⟨List.nodup_nil, fun p hp => nomatch hp⟩
theorem tstep_le {s m : Tab} : s.length ≤ (tstep s m).1.length ∧ m.length ≤ (tstep s m).2.length := ⟨len_puts, len_puts⟩
end Mi
namespace Mi
theorem len_puts_le {α : Type} [DecidableEq α] : ∀ {ks l : List α}, (ks.foldl put l).length ≤ l.length + ks.length
  | [], _ => Nat.le_refl _
  | k :: ks, l => by
    rw [List.foldl_cons, List.length_cons]
    have h1 := len_puts_le (ks := ks) (l := put l k)
    have h2 : (put l k).length ≤ l.length + 1 := by
      unfold put
      split <;> simp
    omega
theorem stated_len (x : Sen) : (stated x).length ≤ 2 := by
  cases x with
  | some x y => by_cases h : x = y <;> simp [stated, h]
  | verb q x d v b p y => cases q <;> cases p <;> simp [stated]
  | self q x d v => cases q <;> simp [stated]
  | _ x y => simp [stated]
theorem statedAll_len (ps : List Sen) : (ps.flatMap stated).length ≤ 2 * ps.length := by
  induction ps with
  | nil => simp
  | cons a r ih =>
    have := stated_len a
    simp only [List.flatMap_cons, List.length_append, List.length_cons]
    omega
theorem statedKinds_len (ps : List Sen) : (statedKinds ps).length ≤ 2 * ps.length := by
  have h1 := len_puts_le (ks := ps.flatMap stated) (l := [])
  have h2 := statedAll_len ps
  unfold statedKinds
  rw [List.length_nil, Nat.zero_add] at h1
  exact Nat.le_trans h1 h2
structure IntOk (n : Nat) (l : List Int) : Prop where
  nd : l.Nodup
  rg : ∀ x ∈ l, Nn n x
theorem IntOk.len {n : Nat} {l : List Int} (h : IntOk n l) : l.length ≤ n := by
  have := nodup_sub_len (m := rgI n) h.nd fun x hx => mem_rgI.mpr (h.rg x hx)
  rwa [len_rgI] at this
theorem IntOk.put {n : Nat} {l : List Int} {k : Int} (h : IntOk n l) (hk : Nn n k) : IntOk n (put l k) := ⟨nodup_put h.nd, fun x hx => (mem_put.mp hx).elim (h.rg x) fun e => e ▸ hk⟩
theorem IntOk.puts {n : Nat} {l ks : List Int} (h : IntOk n l) (hk : ∀ k ∈ ks, Nn n k) : IntOk n (ks.foldl Mi.put l) := ⟨nodup_puts h.nd, fun x hx => (mem_puts.mp hx).elim (h.rg x) (hk x)⟩
theorem above_rg {s : Tab} {k : Kd} {n : Nat} : ∀ x ∈ above s k n, Nn n x := fun x hx => mem_rgI.mp (List.mem_filter.mp hx).1
theorem found0_ok {n : Nat} {s : Tab} {ps : List Sen} : IntOk n (found0 n s ps) := by
  unfold found0
  exact IntOk.puts ⟨List.nodup_nil, fun x hx => nomatch hx⟩ fun k hk => by
    obtain ⟨kd, _, h⟩ := List.mem_flatMap.mp hk
    exact above_rg k h
/-- the nouns' step -/
def nstep (s m : Tab) (f : List Int) (g : List Int) (z : Int) : List Int := if f.any (fun o => has s o z || has m z o) then put g z else g
theorem nstep_ok {n : Nat} {s m : Tab} {f g : List Int} {z : Int} (h : IntOk n g) (hz : Nn n z) : IntOk n (nstep s m f g z) := by
  unfold nstep
  split
  · exact h.put hz
  · exact h
theorem nsteps_ok {n : Nat} {s m : Tab} {f : List Int} : ∀ {zs g : List Int}, IntOk n g → (∀ z ∈ zs, Nn n z) → IntOk n (zs.foldl (nstep s m f) g)
  | [], _, h, _ => h
  | z :: zs, g, h, hz => nsteps_ok (g := nstep s m f g z) (nstep_ok h (hz z (by simp))) fun y hy => hz y (by simp [hy])
theorem askPut_ok {n m : Nat} {g : List Int} {x : Sen} (h : IntOk n g) (hx : x.ok n m) : IntOk n (askPut g x) := by
  cases x with
  | verb q x d v b p y =>
    show IntOk n (if x ∈ g then Mi.put g y else g)
    by_cases hg : x ∈ g
    · rw [if_pos hg]; exact h.put hx.2.1
    · rw [if_neg hg]; exact h
  | _ => exact h
theorem askPuts_ok {n m : Nat} : ∀ {xs : List Sen} {g : List Int}, IntOk n g → (∀ x ∈ xs, x.ok n m) → IntOk n (xs.foldl askPut g)
  | [], _, h, _ => h
  | x :: xs, g, h, hx => askPuts_ok (g := askPut g x) (askPut_ok h (hx x (by simp))) fun y hy => hx y (by simp [hy])
theorem rstep_eq {n : Nat} {s m : Tab} {asked : List Sen} {f : List Int} : rstep n s m asked f = asked.foldl askPut ((rgI n).foldl (nstep s m f) f) := rfl
theorem rstep_ok {n m0 : Nat} {s m : Tab} {asked : List Sen} {f : List Int} (h : IntOk n f) (ha : ∀ x ∈ asked, x.ok n m0) : IntOk n (rstep n s m asked f) := askPuts_ok (nsteps_ok h fun z hz => mem_rgI.mp hz) ha
theorem nstep_le {s m : Tab} {f g : List Int} {z : Int} : g.length ≤ (nstep s m f g z).length := by
  unfold nstep
  split
  · exact len_put
  · exact Nat.le_refl _
theorem nsteps_le {s m : Tab} {f : List Int} : ∀ {zs g : List Int}, g.length ≤ (zs.foldl (nstep s m f) g).length
  | [], _ => Nat.le_refl _
  | z :: zs, g => Nat.le_trans nstep_le (nsteps_le (zs := zs) (g := nstep s m f g z))
theorem askPut_le {g : List Int} {x : Sen} : g.length ≤ (askPut g x).length := by
  cases x with
  | verb q x d v b p y =>
    show g.length ≤ (if x ∈ g then Mi.put g y else g).length
    by_cases hg : x ∈ g
    · rw [if_pos hg]; exact len_put
    · rw [if_neg hg]; exact Nat.le_refl _
  | _ => exact Nat.le_refl _
theorem askPuts_le : ∀ {xs : List Sen} {g : List Int}, g.length ≤ (xs.foldl askPut g).length
  | [], _ => Nat.le_refl _
  | x :: xs, g => Nat.le_trans askPut_le (askPuts_le (xs := xs) (g := askPut g x))
theorem rstep_le {n : Nat} {s m : Tab} {asked : List Sen} {f : List Int} : f.length ≤ (rstep n s m asked f).length := Nat.le_trans nsteps_le askPuts_le
theorem rfix_ok {n m0 : Nat} {s m : Tab} {asked : List Sen} (ha : ∀ x ∈ asked, x.ok n m0) : ∀ {k : Nat} {f : List Int}, IntOk n f → IntOk n (rfix n s m asked k f)
  | 0, _, h => h
  | k + 1, f, h => by
    unfold rfix
    split
    · exact rfix_ok ha (rstep_ok h ha)
    · exact rstep_ok h ha
theorem perm_nouns {n : Nat} {l : List Int} (h : IntOk n l) : ((rgI n).filter fun z => decide (z ∈ l)).Perm l := by
  refine (List.perm_ext_iff_of_nodup ((nodup_rgI n).filter _) h.nd).mpr fun x => ?_
  rw [List.mem_filter, mem_rgI, decide_eq_true_eq]
  exact ⟨fun h => h.2, fun hx => ⟨h.rg x hx, hx⟩⟩
theorem sorted_nouns {n : Nat} {l : List Int} : ((rgI n).filter fun z => decide (z ∈ l)).Pairwise (· ≤ ·) := ((sorted_rgI n).filter _).imp fun h => Int.le_of_lt h
end Mi
namespace Mi
theorem sizes0_len (s : Tab) (ks : List Kd) : (sizes0 s ks).length = 3 * ks.length := by
  induction ks with
  | nil => rfl
  | cons k r ih =>
    unfold sizes0 at ih ⊢
    rw [List.flatMap_cons, List.length_append, ih]
    simp only [List.length_cons, List.length_nil]
    omega
theorem sets_len {f : Int × Nat → Int} : ∀ (cs : List (Nat × Int)) (g : Nat × Int → Int) (sz : List Int), (cs.foldl (fun sz c => sz.set (3 * c.1) (g c)) sz).length = sz.length
  | [], _, _ => rfl
  | c :: cs, g, sz => by rw [List.foldl_cons, sets_len (f := f) cs g, List.length_set]
theorem level_len {n : Nat} {s m : Tab} {ks : List Kd} {req : List Int} {st : Int × List Int} {lv : Int} : (level n s m ks req st lv).2.length = st.2.length := sets_len (f := fun _ => 0) _ _ _
theorem levels_len {n : Nat} {s m : Tab} {ks : List Kd} {req : List Int} : ∀ (ls : List Int) (st : Int × List Int), (ls.foldl (level n s m ks req) st).2.length = st.2.length
  | [], _ => rfl
  | l :: ls, st => by rw [List.foldl_cons, levels_len ls, level_len]
theorem sizesOf_len (n : Nat) (s m : Tab) (ks : List Kd) : (sizesOf n s m ks).length = 3 * ks.length := by
  unfold sizesOf
  rw [levels_len, sizes0_len]
theorem levelOf_rg {m : Tab} {req : List Int} {x : Int} : Nn (req.length + 1) (levelOf m req x) := by
  unfold levelOf Nn
  have := List.length_filter_le (fun o => has m x o) req
  omega
theorem mem_levels {m : Tab} {req : List Int} {k : Int} : k ∈ levels m req ↔ k ∈ req.map (levelOf m req) := by
  unfold levels
  rw [List.mem_filter, mem_rgI, decide_eq_true_eq]
  refine ⟨fun h => h.2, fun h => ⟨?_, h⟩⟩
  obtain ⟨x, _, rfl⟩ := List.mem_map.mp h
  exact levelOf_rg
theorem levels_sorted {m : Tab} {req : List Int} : (levels m req).Pairwise (· < ·) := (sorted_rgI _).filter _
theorem openAt_nodup {s m : Tab} {req : List Int} {ks : List Kd} {lv : Int} : (openAt s m req ks lv).Nodup := by
  unfold openAt
  rw [List.Nodup, List.pairwise_filterMap]
  have h : (ks.zipIdx.map (·.2)).Nodup := by
    rw [List.zipIdx_map_snd]
    exact List.nodup_range'
  rw [List.Nodup, List.pairwise_map] at h
  refine h.imp fun hne a ha b hb e => ?_
  subst e
  split at ha
  · split at hb
    · exact hne ((Option.some.inj ha).trans (Option.some.inj hb).symm)
    · cases hb
  · cases ha
theorem mem_openAt {s m : Tab} {req : List Int} {ks : List Kd} {lv : Int} {a : Nat} : a ∈ openAt s m req ks lv ↔ ∃ k, ks[a]? = some k ∧ isPlain s k = true ∧ levelOf m req (nounOf k) = lv := by
  unfold openAt
  rw [List.mem_filterMap]
  constructor
  · rintro ⟨⟨k, i⟩, hm, e⟩
    have h1 := List.mem_zipIdx_iff_getElem?.mp hm
    split at e
    · rename_i h
      cases e
      rw [Bool.and_eq_true, decide_eq_true_eq] at h
      exact ⟨k, h1, h.1, h.2⟩
    · cases e
  · rintro ⟨k, h1, h2, h3⟩
    refine ⟨(k, a), List.mem_zipIdx_iff_getElem?.mpr h1, ?_⟩
    rw [if_pos]
    rw [h2, h3]; simp
theorem mem_ones {ks : List Kd} {x : Int} : x ∈ ones ks ↔ Kd.one x ∈ ks := by
  unfold ones
  rw [List.mem_filterMap]
  constructor
  · rintro ⟨k, hk, e⟩
    cases k <;> simp at e
    subst e; exact hk
  · intro h
    exact ⟨_, h, rfl⟩
theorem plain_one {s : Tab} {k : Kd} (h : isPlain s k = true) : ∃ x, k = .one x := by
  cases k with
  | one x => exact ⟨x, rfl⟩
  | _ => cases h
theorem maxOf_mem : ∀ (l : List Int) (a : Int), maxOf a l ∈ a :: l
  | [], a => by simp [maxOf]
  | b :: r, a => by
    have := maxOf_mem r (max a b)
    show maxOf (max a b) r ∈ _
    rcases List.mem_cons.mp this with h | h
    · rw [h]
      rcases Int.le_total a b with g | g
      · rw [Int.max_eq_right g]; simp
      · rw [Int.max_eq_left g]; simp
    · simp [h]
theorem maxOf_le : ∀ (l : List Int) (a : Int), ∀ y ∈ a :: l, y ≤ maxOf a l
  | [], a => by simp [maxOf]
  | b :: r, a => by
    intro y hy
    have ih := maxOf_le r (max a b)
    show y ≤ maxOf (max a b) r
    have h0 := ih (max a b) (by simp)
    rcases List.mem_cons.mp hy with rfl | hy
    · exact Int.le_trans (Int.le_max_left _ _) h0
    · rcases List.mem_cons.mp hy with rfl | hy
      · exact Int.le_trans (Int.le_max_right _ _) h0
      · exact ih y (by simp [hy])
end Mi
namespace AL
open PySem PySem.Spec PyProof.Rows L2
section
variable {X : Cx} {e a b c f : Expr} {es as : List Expr} {kws : List Keyword} {ops : List CmpOp} {op : Operator} {bop : BoolOp} {oe : Option Expr} {st : List Stmt} {δ : List Cell} {Q : D → Prop} {QT : Bool → Prop} {QA : List D → Prop} {QP : Option Int → Prop} {QI : List D → Prop} {pos : Pos} {N : List Cell → Prop} {R : D → List Cell → Prop}
theorem gE (h : Pw X e δ Q) : Pw X e δ Q := h
theorem gEcmp (h : Pw X (.Compare a ops as pos) δ Q) : Pw X (.Compare a ops as pos) δ Q := h
theorem gEcall (h : Pw X (.Call f as kws pos) δ Q) : Pw X (.Call f as kws pos) δ Q := h
theorem gEbin (h : Pw X (.BinOp a op b pos) δ Q) : Pw X (.BinOp a op b pos) δ Q := h
theorem gT (h : PwT X e δ QT) : PwT X e δ QT := h
theorem gTcmp (h : PwT X (.Compare a ops as pos) δ QT) : PwT X (.Compare a ops as pos) δ QT := h
theorem gW (h : PwW X e δ QT) : PwW X e δ QT := h
theorem gA (h : PwA X as δ QA) : PwA X as δ QA := h
theorem gP (h : PwP X oe δ QP) : PwP X oe δ QP := h
theorem gG {tg : Expr} {d : D} {is : List Nat} {QC : List Cell → Prop} (h : PwG X tg d δ is QC) : PwG X tg d δ is QC := h
theorem gGs {tg : List Expr} {d : List D} {is : List Nat} {QC : List Cell → Prop} (h : PwGs X tg d δ is QC) : PwGs X tg d δ is QC := h
theorem gS (h : Sd X st δ N R) : Sd X st δ N R := h
end
end AL
namespace AL
open PySem PySem.Spec PyProof.Rows L2
theorem blk_of {X : Cx} {N P : List Str} {sc scope : Scope} {own : List (Str × Nat)} (S : FnScope N P sc) (h1 : X.N = N) (h2 : X.env.scope = sc)
    (h : scope.kind = .function ∧ (∀ y ∈ scope.names, scope.names.lookup y.1 = some y.2) ∧ (∀ p ∈ own, N[p.2]? = some p.1) ∧ (∀ y ∈ scope.names, y.2 = .free → sc.names.lookup y.1 = some .cell ∨ sc.names.lookup y.1 = some .free) ∧
      (∀ y ∈ scope.names, y.2 = .local ∨ y.2 = .cell → y.1 ∈ own.map (·.1) ∨ y.1 ∉ N)) : BlkOk X.N X.env.scope scope own := by
  subst h1 h2
  exact ⟨h.1, h.2.1, h.2.2.1, h.2.2.2.1, h.2.2.2.2⟩
end AL
namespace AL
open PySem PySem.Spec PyProof.Rows L2
theorem mm {α : Type} {xs : List α} {g : α → Bool} : [D.lst (xs.map fun x => D.bl (g x))] = [D.lst ((xs.map g).map D.bl)] := by rw [List.map_map]; rfl
theorem fm_map {α β : Type} {g : α → Option β} {e : β → D} (xs : List α) : (xs.filterMap fun x => (g x).map e) = (xs.filterMap g).map e := by
  induction xs with
  | nil => rfl
  | cons a r ih =>
    cases h : g a with
    | none => simp [h, ih]
    | some b => simp [h, ih]
theorem mmS {α : Type} {xs : List α} {g : α → Option Int} : [D.lst (xs.filterMap fun x => (g x).map D.int)] = [D.lst ((xs.filterMap g).map D.int)] := by rw [fm_map]
theorem pwg_nm {X : Cx} {x : Str} {p : Pos} {d : D} {δ : List Cell} {i : Nat} {QC : List Cell → Prop} (hN : X.N.Nodup) (hi : X.N.findIdx? (fun y => y == x) = some i) (hx : Loc X.env.scope x) (q : QC (δ.set i (.im d))) (hf : X.fn x = true ∨ X.env.scope.names.lookup x = some .local := by first | exact .inl rfl | exact .inr rfl) : PwG X (.Name x p) d δ [i] QC := pwg_name hN (ix_get hi) hx q hf
theorem pwg_pair {X : Cx} {x y : Str} {p p2 pos : Pos} {k0 : Nat} {d1 d2 : D} {δ : List Cell} {i j : Nat} {QC : List Cell → Prop} (hN : X.N.Nodup) (hc : X.calm = true) (hi : X.N.findIdx? (fun z => z == x) = some i) (hj : X.N.findIdx? (fun z => z == y) = some j) (hx : Loc X.env.scope x) (hy : Loc X.env.scope y) (q : QC ((δ.set i (.im d1)).set j (.im d2)))
    (hf : X.fn x = true ∨ X.env.scope.names.lookup x = some .local := by first | exact .inl rfl | exact .inr rfl) (hf2 : X.fn y = true ∨ X.env.scope.names.lookup y = some .local := by first | exact .inl rfl | exact .inr rfl)
    (hn : (assignEach [.Name x p, .Name y p2] X.env).length = 2 := by rfl) (hst : (assignEach [.Name x p, .Name y p2] X.env).findIdx? (·.1) = none := by rfl)
    (hs1 : (assignEach [.Name x p, .Name y p2] X.env).map (·.2) = assign (.Name x p) X.env :: (assignEach [.Name y p2] X.env).map (·.2) := by rfl) (hs2 : (assignEach [.Name y p2] X.env).map (·.2) = assign (.Name y p2) X.env :: (assignEach [] X.env).map (·.2) := by rfl) :
    PwG X (.Tuple [.Name x p, .Name y p2] k0 pos) (.tup [d1, d2]) δ [i, j] QC :=
  pwg_tup hc rfl (pwgs_cons (is := [i]) (js := [j]) (pwg_name hN (ix_get hi) hx (pwgs_cons (is := [j]) (js := []) (pwg_name hN (ix_get hj) hy (pwgs_nil q) hf2) hs2) hf) hs1) hn hst
section
variable {X : Cx} {e e2 tg : Expr} {es : List Expr} {st : Stmt} {rest body : List Stmt} {δ : List Cell} {N : List Cell → Prop} {R : D → List Cell → Prop} {pos p p2 p3 : Pos} {x : Str}
theorem sd_setN {i : Nat} (hN : X.N.Nodup) (hi : X.N.findIdx? (fun y => y == x) = some i) (hx : Loc X.env.scope x) (he : Pw X e δ fun d => Sd X rest (δ.set i (.im d)) N R) (hs : swapsWith e (some (.Name x p)) pos.line X.env = pure false := by rfl)
    (hf : X.fn x = true ∨ X.env.scope.names.lookup x = some .local := by first | exact .inl rfl | exact .inr rfl) : Sd X (.Assign [.Name x p] e pos :: rest) δ N R := sd_set hN (ix_get hi) hx he hs hf
theorem sd_newLN {i : Nat} (hN : X.N.Nodup) (hi : X.N.findIdx? (fun y => y == x) = some i) (hx : Loc X.env.scope x) (hl : i < δ.length) (h : Sd X rest (δ.set i (.ow (.lst []))) N R) (hs : swapsWith (.List [] p2) (some (.Name x p)) pos.line X.env = pure false := by rfl)
    (hf : X.fn x = true ∨ X.env.scope.names.lookup x = some .local := by first | exact .inl rfl | exact .inr rfl) : Sd X (.Assign [.Name x p] (.List [] p2) pos :: rest) δ N R := sd_newL hN (ix_get hi) hx hl h hs hf
theorem sd_newTN {i : Nat} (hN : X.N.Nodup) (hi : X.N.findIdx? (fun y => y == x) = some i) (hx : Loc X.env.scope x) (hl : i < δ.length) (h : Sd X rest (δ.set i (.ow (.tab []))) N R) (hs : swapsWith (.Dict [] [] p2) (some (.Name x p)) pos.line X.env = pure false := by rfl)
    (hf : X.fn x = true ∨ X.env.scope.names.lookup x = some .local := by first | exact .inl rfl | exact .inr rfl) : Sd X (.Assign [.Name x p] (.Dict [] [] p2) pos :: rest) δ N R := sd_newT hN (ix_get hi) hx hl h hs hf
theorem sd_newKN {i : Nat} (hN : X.N.Nodup) (hi : X.N.findIdx? (fun y => y == x) = some i) (hx : Loc X.env.scope x) (hl : i < δ.length) (h : Sd X rest (δ.set i (.ow (.ik []))) N R) (hs : swapsWith (.Dict [] [] p2) (some (.Name x p)) pos.line X.env = pure false := by rfl)
    (hf : X.fn x = true ∨ X.env.scope.names.lookup x = some .local := by first | exact .inl rfl | exact .inr rfl) : Sd X (.Assign [.Name x p] (.Dict [] [] p2) pos :: rest) δ N R := sd_newK hN (ix_get hi) hx hl h hs hf
theorem sd_newIN {i : Nat} (hN : X.N.Nodup) (hi : X.N.findIdx? (fun y => y == x) = some i) (hx : Loc X.env.scope x) (hl : i < δ.length) (h : Sd X rest (δ.set i (.ow (.imp []))) N R) (hs : swapsWith (.Dict [] [] p2) (some (.Name x p)) pos.line X.env = pure false := by rfl)
    (hf : X.fn x = true ∨ X.env.scope.names.lookup x = some .local := by first | exact .inl rfl | exact .inr rfl) : Sd X (.Assign [.Name x p] (.Dict [] [] p2) pos :: rest) δ N R := sd_newI hN (ix_get hi) hx hl h hs hf
theorem sd_appendN {i : Nat} {l : List D} {apos : Pos} (hN : X.N.findIdx? (fun y => y == x) = some i) (he : δ[i]? = some (Cell.ow (.lst l))) (hv : Vis X.env.scope x) (h : Pw X e δ fun d => l.length < sizeLine ∧ Sd X rest (δ.set i (.ow (.lst (l ++ [d])))) N R) (hd : (x == ("__debug__" : Str)) = false := by decide) (hcd : (x == ("__classdict__" : Str)) = false := by decide)
    (hb : attributeBase (.Name x p) "append" X.env (eval (.Name x p) X.env) = eval (.Name x p) X.env := by rfl)
    (hfew : ((backTo p2 (starEach [e] X.env)).all (fun x => !x.1) && (backToKw p2 (keywordEach [] X.env)).all (fun x => x.1.isSome) && decide (([e] : List Expr).length + ([] : List Keyword).length + (if ([] : List Keyword).isEmpty then 0 else 1) < 30)) = true := by rfl)
    (hline : (apos.endLine == p2.line) = true := by rfl) (hs : starEach [e] X.env = (false, eval e X.env) :: starEach [] X.env := by rfl) (hpl : (backTo p2 (starEach [] X.env)).any (·.1) = false := by rfl)
    (hsw : swapsWith (.Call (.Attribute (.Name x p) "append" apos) [e] [] p2) none p3.line X.env = pure false := by rfl) :
    Sd X (.Expr (.Call (.Attribute (.Name x p) "append" apos) [e] [] p2) p3 :: rest) δ N R := sd_append he (ix_get hN) hv h hd hcd hb hfew hline hs hpl hsw
theorem sd_extendN {i : Nat} {l : List D} {apos : Pos} (hN : X.N.findIdx? (fun y => y == x) = some i) (he : δ[i]? = some (Cell.ow (.lst l))) (hv : Vis X.env.scope x) (h : Pw X e δ fun d => ∃ l2, d = .lst l2 ∧ l.length + l2.length ≤ sizeLine ∧ Sd X rest (δ.set i (.ow (.lst (l ++ l2)))) N R) (hd : (x == ("__debug__" : Str)) = false := by decide) (hcd : (x == ("__classdict__" : Str)) = false := by decide)
    (hb : attributeBase (.Name x p) "extend" X.env (eval (.Name x p) X.env) = eval (.Name x p) X.env := by rfl)
    (hfew : ((backTo p2 (starEach [e] X.env)).all (fun x => !x.1) && (backToKw p2 (keywordEach [] X.env)).all (fun x => x.1.isSome) && decide (([e] : List Expr).length + ([] : List Keyword).length + (if ([] : List Keyword).isEmpty then 0 else 1) < 30)) = true := by rfl)
    (hline : (apos.endLine == p2.line) = true := by rfl) (hs : starEach [e] X.env = (false, eval e X.env) :: starEach [] X.env := by rfl) (hpl : (backTo p2 (starEach [] X.env)).any (·.1) = false := by rfl)
    (hsw : swapsWith (.Call (.Attribute (.Name x p) "extend" apos) [e] [] p2) none p3.line X.env = pure false := by rfl) :
    Sd X (.Expr (.Call (.Attribute (.Name x p) "extend" apos) [e] [] p2) p3 :: rest) δ N R := sd_extend he (ix_get hN) hv h hd hcd hb hfew hline hs hpl hsw
theorem sd_putTN {i : Nat} {l : List (Int × Int)} {j : Nat} {pt pb : Pos} (hu : X.A.units + 1 < cLine) (hN : X.N.findIdx? (fun y => y == x) = some i) (he : δ[i]? = some (Cell.ow (.tab l))) (hv : Vis X.env.scope x) (hz : l.length < sizeLine)
    (h : Pw X e δ fun d => ∃ a b, d = .tup [.int a, .int b] ∧ Sd X rest (δ.set i (.ow (.tab (putT l (a, b))))) N R) (hd : (x == ("__debug__" : Str)) = false := by decide) (hcd : (x == ("__classdict__" : Str)) = false := by decide)
    (hs : swapsWith (.Constant (.bool true) j pb) (some (.Subscript (.Name x p) e pt)) pos.line X.env = pure false := by rfl) : Sd X (.Assign [.Subscript (.Name x p) e pt] (.Constant (.bool true) j pb) pos :: rest) δ N R := sd_putT hu he (ix_get hN) hv hz h hd hcd hs
theorem sd_putKN {i : Nat} {l : List Int} {j : Nat} {pt pb : Pos} (hu : X.A.units + 1 < cLine) (hN : X.N.findIdx? (fun y => y == x) = some i) (he : δ[i]? = some (Cell.ow (.ik l))) (hv : Vis X.env.scope x) (hz : l.length < sizeLine)
    (h : Pw X e δ fun d => ∃ a, d = .int a ∧ Sd X rest (δ.set i (.ow (.ik (putI l a)))) N R) (hd : (x == ("__debug__" : Str)) = false := by decide) (hcd : (x == ("__classdict__" : Str)) = false := by decide)
    (hs : swapsWith (.Constant (.bool true) j pb) (some (.Subscript (.Name x p) e pt)) pos.line X.env = pure false := by rfl) : Sd X (.Assign [.Subscript (.Name x p) e pt] (.Constant (.bool true) j pb) pos :: rest) δ N R := sd_putK hu he (ix_get hN) hv hz h hd hcd hs
end
section
variable {X : Cx} {e tg : Expr} {es : List Expr} {st : List Stmt} {δ δ' : List Cell} {Q : D → Prop} {QT : Bool → Prop} {QA : List D → Prop} {QC : List Cell → Prop} {N : List Cell → Prop} {R : D → List Cell → Prop} {d : D} {is : List Nat} {t : TE}
theorem nfE (h : δ = δ') (q : Pw X e δ' Q) : Pw X e δ Q := h ▸ q
theorem nfT (h : δ = δ') (q : PwT X e δ' QT) : PwT X e δ QT := h ▸ q
theorem nfTs (h : δ = δ') (q : PwTs X es δ' QT) : PwTs X es δ QT := h ▸ q
theorem nfI (h : δ = δ') (q : PwI X tg e δ' QA) : PwI X tg e δ QA := h ▸ q
theorem nfS (h : δ = δ') (q : Sd X st δ' N R) : Sd X st δ N R := h ▸ q
theorem nfG (h : δ = δ') (q : PwG X tg d δ' is QC) : PwG X tg d δ is QC := h ▸ q
theorem nfX (h : δ = δ') (q : PwX t δ' Q) : PwX t δ Q := h ▸ q
theorem nfXO {QL : List D → Prop} (h : δ = δ') (q : PwXO t δ' QL) : PwXO t δ QL := h ▸ q
end
theorem blk_of2 {X : Cx} {N P : List Str} {sc0 sc scope : Scope} {own : List (Str × Nat)} (S : FnScope N P sc0) (h1 : X.N = N) (h2 : X.env.scope = sc)
    (h : scope.kind = .function ∧ (∀ y ∈ scope.names, scope.names.lookup y.1 = some y.2) ∧ (∀ p ∈ own, N[p.2]? = some p.1) ∧ (∀ y ∈ scope.names, y.2 = .free → sc.names.lookup y.1 = some .cell ∨ sc.names.lookup y.1 = some .free) ∧
      (∀ y ∈ scope.names, y.2 = .local ∨ y.2 = .cell → y.1 ∈ own.map (·.1) ∨ y.1 ∉ N)) : BlkOk X.N X.env.scope scope own := by
  subst h1 h2
  exact ⟨h.1, h.2.1, h.2.2.1, h.2.2.2.1, h.2.2.2.2⟩
theorem fm_filter {α β : Type} {p : α → Bool} {e : α → β} (xs : List α) : (xs.filterMap fun x => if p x = true then some (e x) else none) = (xs.filter p).map e := by
  induction xs with
  | nil => rfl
  | cons a r ih => by_cases h : p a = true <;> simp [h, ih]
theorem rgD0 (n : Nat) : rgD 0 ((n : Int)).toNat = (Mi.rgI n).map D.int := by
  unfold rgD Mi.rgI
  rw [List.map_map]
  show (List.range n).map _ = (List.range n).map _
  apply List.map_congr_left
  intro i _
  simp
theorem ift {A : Type} {t : Bool} {x : A} (h : t = false) : (if t = true then some x else none) = none := by rw [h]; rfl
theorem ift' {A : Type} {t : Bool} {x : A} (h : t = true) : (if t = true then some x else none) = some x := if_pos h
end AL
namespace AL
open PySem PySem.Spec PyProof.Rows L2
def frOk : List (Str × NameKind) → List (Str × NameKind) → Bool
  | [], _ => true
  | (x, .free) :: r, sc => (match sc.lookup x with | some .cell => true | some .free => true | _ => false) && frOk r sc
  | _ :: r, sc => frOk r sc
theorem frOk_ok : ∀ {l sc : List (Str × NameKind)}, frOk l sc = true → ∀ y ∈ l, y.2 = .free → sc.lookup y.1 = some .cell ∨ sc.lookup y.1 = some .free
  | [], _, _, y, hy, _ => nomatch hy
  | (x, k) :: r, sc, h, y, hy, e => by
    cases k with
    | free =>
      rw [frOk, Bool.and_eq_true] at h
      rcases List.mem_cons.mp hy with rfl | hy
      · have h1 := h.1
        split at h1
        · exact .inl (by assumption)
        · exact .inr (by assumption)
        · cases h1
      · exact frOk_ok h.2 y hy e
    | _ =>
      rcases List.mem_cons.mp hy with rfl | hy
      · cases e
      · exact frOk_ok (by simpa [frOk] using h) y hy e
/-- a block within a block -/
theorem blk_in {X : Cx} {N P : List Str} {sc0 scope : Scope} {own : List (Str × Nat)} (S : FnScope N P sc0) (h1 : X.N = N)
    (h : scope.kind = .function ∧ (∀ y ∈ scope.names, scope.names.lookup y.1 = some y.2) ∧ (∀ p ∈ own, N[p.2]? = some p.1) ∧ (∀ y ∈ scope.names, y.2 = .local ∨ y.2 = .cell → y.1 ∈ own.map (·.1) ∨ y.1 ∉ N))
    (hf : frOk scope.names X.env.scope.names = true := by rfl) : BlkOk X.N X.env.scope scope own := by
  subst h1
  exact ⟨h.1, h.2.1, h.2.2.1, frOk_ok hf, h.2.2.2⟩
def words : List Str := ["verb", "all", "some", "self", "mark", "one", "both", "some not", "no", "as many", "fewer", "yes", "free", "pair", "premise", "assert", "withdraw", "not", "many", "missing", ""]
theorem words_ok : words.all PyData.strOk = true := by decide +kernel
mutual
def dpW : D → Bool
  | .non => true | .bl _ => true | .int _ => true | .str x => words.contains x
  | .tup l => dpWs l | .lst l => dpWs l
  | .tab _ => false | .imp _ => false | .ik _ => false
def dpWs : List D → Bool
  | [] => true
  | d :: r => dpW d && dpWs r
end
mutual
def dpt : D → Nat
  | .tup l => dpts l + 1 | .lst l => dpts l + 1
  | .non => 0 | .bl _ => 0 | .int _ => 0 | .str _ => 0 | .tab _ => 0 | .imp _ => 0 | .ik _ => 0
def dpts : List D → Nat
  | [] => 0
  | d :: r => max (dpt d) (dpts r)
end
mutual
theorem dpW_ok : ∀ (d : D), dpW d = true → noDict d = true ∧ (pdOf d).canLay0 = true
  | .non, _ => ⟨rfl, by simp [pdOf, PyData.canLay0]⟩
  | .bl _, _ => ⟨rfl, by simp [pdOf, PyData.canLay0]⟩
  | .int _, _ => ⟨rfl, by simp [pdOf, PyData.canLay0]⟩
  | .str x, h => by
    refine ⟨rfl, ?_⟩
    simp only [dpW] at h
    simp only [pdOf, PyData.canLay0]
    exact List.all_eq_true.mp words_ok x (List.contains_iff_mem.mp h)
  | .tup l, h => by
    simp only [dpW] at h
    obtain ⟨h1, h2⟩ := dpWs_ok l h
    exact ⟨by simp only [noDict]; exact h1, by simp only [pdOf, PyData.canLay0]; exact h2⟩
  | .lst l, h => by
    simp only [dpW] at h
    obtain ⟨h1, h2⟩ := dpWs_ok l h
    exact ⟨by simp only [noDict]; exact h1, by simp only [pdOf, PyData.canLay0]; exact h2⟩
  | .tab _, h => by simp [dpW] at h
  | .imp _, h => by simp [dpW] at h
  | .ik _, h => by simp [dpW] at h
theorem dpWs_ok : ∀ (l : List D), dpWs l = true → noDicts l = true ∧ PyData.canLayAll0 (pdsOf l) = true
  | [], _ => ⟨rfl, by simp [pdsOf, PyData.canLayAll0]⟩
  | d :: r, h => by
    simp only [dpWs, Bool.and_eq_true] at h
    obtain ⟨h1, h2⟩ := dpW_ok d h.1
    obtain ⟨h3, h4⟩ := dpWs_ok r h.2
    exact ⟨by simp only [noDicts, h1, h3]; rfl, by simp only [pdsOf, PyData.canLayAll0, h2, h4]; rfl⟩
end
mutual
theorem dpt_eq : ∀ d : D, (pdOf d).depth = dpt d
  | .non => by simp [pdOf, PyData.depth, dpt]
  | .bl _ => by simp [pdOf, PyData.depth, dpt]
  | .int _ => by simp [pdOf, PyData.depth, dpt]
  | .str _ => by simp [pdOf, PyData.depth, dpt]
  | .tup l => by simp [pdOf, PyData.depth, dpt, dpts_eq l]
  | .lst l => by simp [pdOf, PyData.depth, dpt, dpts_eq l]
  | .tab _ => by simp [pdOf, PyData.depth, dpt]
  | .imp _ => by simp [pdOf, PyData.depth, dpt]
  | .ik _ => by simp [pdOf, PyData.depth, dpt]
theorem dpts_eq : ∀ l : List D, PyData.depthAll (pdsOf l) = dpts l
  | [] => by simp [pdsOf, PyData.depthAll, dpts]
  | d :: r => by simp [pdsOf, PyData.depthAll, dpts, dpt_eq d, dpts_eq r]
end
theorem dp_ok (d : D) (h : dpW d = true) (h2 : Nat.ble (dpt d) 64 = true) : dpOk d = true := by
  obtain ⟨h3, h4⟩ := dpW_ok d h
  unfold dpOk SeqAt.shaped
  rw [h3, h4, dpt_eq, decide_eq_true (Nat.le_of_ble_eq_true h2)]
  rfl
theorem flat_ints (l : List Int) : (l.map D.int).all flatD = true := by
  rw [List.all_eq_true]
  intro z hz
  obtain ⟨u, _, rfl⟩ := List.mem_map.mp hz
  rfl
theorem inD_ints (x : Int) : ∀ l : List Int, inD (.int x) (l.map D.int) = decide (x ∈ l)
  | [] => rfl
  | y :: r => by
    have ih := inD_ints x r
    show (eqF (.int y) (.int x) || inD (.int x) (r.map D.int)) = _
    rw [ih]
    show ((y == x) || _) = _
    by_cases h : x = y
    · subst h; simp
    · have : (y == x) = false := beq_eq_false_iff_ne.mpr (Ne.symm h)
      rw [this]; simp [h]
section
variable {X : Cx} {a b : Expr} {δ : List Cell} {Q : D → Prop} {QT : Bool → Prop} {pos : Pos}
theorem pwt_inI (ha : Pw X a δ fun d1 => Pw X b δ fun d2 => ∃ (i : Int) (l : List Int), d1 = .int i ∧ d2 = .tup (l.map .int) ∧ QT (decide (i ∈ l))) (hm : behindInMarks .In b = false := by rfl) : PwT X (.Compare a [.In] [b] pos) δ QT :=
  pwt_in hm (ha.imp fun _ h => h.imp fun _ ⟨i, l, e1, e2, q⟩ => ⟨l.map .int, by rw [e2]; rfl, by rw [e1]; rfl, flat_ints l, by rw [e1, inD_ints]; exact q⟩)
theorem pw_inI (ha : Pw X a δ fun d1 => Pw X b δ fun d2 => ∃ (i : Int) (l : List Int), d1 = .int i ∧ d2 = .tup (l.map .int) ∧ Q (.bl (decide (i ∈ l)))) (hm : behindInMarks .In b = false := by rfl) : Pw X (.Compare a [.In] [b] pos) δ Q :=
  pw_in hm (ha.imp fun _ h => h.imp fun _ ⟨i, l, e1, e2, q⟩ => ⟨l.map .int, by rw [e2]; rfl, by rw [e1]; rfl, flat_ints l, by rw [e1, inD_ints]; exact q⟩)
end
end AL
namespace AL
open PySem PySem.Spec PyProof.Rows L2
theorem ibeq (a b : Int) : (a == b) = decide (a = b) := by by_cases h : a = b <;> simp [h]
theorem bbeq (a b : Bool) : (a == b) = decide (a = b) := by cases a <;> cases b <;> rfl
theorem eqD_3 (d d' : Bool) (v v' : Int) (b b' : Bool) : eqD (.tup [.bl d, .int v, .bl b]) (.tup [.bl d', .int v', .bl b']) = (decide (d = d') && decide (v = v') && decide (b = b')) := by
  simp only [eqD, pdOf, pdsOf, PyData.eqv, PyData.eqvAll, Bool.and_true, ibeq, bbeq, Bool.and_assoc]
theorem eqD_2 (d d' : Bool) (v v' : Int) : eqD (.tup [.bl d, .int v]) (.tup [.bl d', .int v']) = (decide (d = d') && decide (v = v')) := by
  simp only [eqD, pdOf, pdsOf, PyData.eqv, PyData.eqvAll, Bool.and_true, ibeq, bbeq]
end AL
namespace AL
open PySem PySem.Spec PyProof.Rows L2
section
variable {X : Cx} {a b : Expr} {lo hi st : Option Expr} {δ : List Cell} {Q : D → Prop} {QT : Bool → Prop} {pos p1 p2 : Pos} {k : Nat}
theorem pwt_eqS (hr : Room k X.A) (ha : Pw X (.Subscript a (.Slice lo hi st p1) p2) δ fun d1 => Pw X b δ fun d2 => dpOk d1 = true ∧ dpOk d2 = true ∧ QT (eqD d1 d2)) : PwT X (.Compare (.Subscript a (.Slice lo hi st p1) p2) [.Eq] [b] pos) δ QT := pwt_eqD hr.units ha
theorem pw_eqS (hr : Room k X.A) (ha : Pw X (.Subscript a (.Slice lo hi st p1) p2) δ fun d1 => Pw X b δ fun d2 => dpOk d1 = true ∧ dpOk d2 = true ∧ Q (.bl (eqD d1 d2))) : Pw X (.Compare (.Subscript a (.Slice lo hi st p1) p2) [.Eq] [b] pos) δ Q := pw_eqD hr.units ha
end
end AL
namespace AL
open PySem PySem.Spec PyProof.Rows L2
theorem sd_ifK {X : Cx} {c : Expr} {ta tb rest : List Stmt} {δ : List Cell} {N : List Cell → Prop} {R : D → List Cell → Prop} {pos : Pos} (h : Sd X rest δ N R) (hc : PwT X c δ fun t => (t = true → Sd X ta δ (fun δ' => δ' = δ) R) ∧ (t = false → Sd X tb δ (fun δ' => δ' = δ) R)) : Sd X (.If c ta tb pos :: rest) δ N R :=
  sd_if (hc.imp fun t q => ⟨fun e => (q.1 e).imp (fun d ed => ed ▸ h) fun _ _ z => z, fun e => (q.2 e).imp (fun d ed => ed ▸ h) fun _ _ z => z⟩)
end AL
namespace AL
open PySem PySem.Spec PyProof.Rows L2
section
variable {X : Cx} {a : Expr} {es : List Expr} {k0 : Nat} {δ : List Cell} {Q : D → Prop} {QT : Bool → Prop} {pos p2 : Pos}
theorem pwt_inTup (ha : Pw X a δ fun d1 => Pw X (.Tuple es k0 p2) δ fun d2 => ∃ l, items d2 = some l ∧ flatD d1 = true ∧ l.all flatD = true ∧ QT (inD d1 l)) (hm : behindInMarks .In (.Tuple es k0 p2) = false := by rfl) : PwT X (.Compare a [.In] [.Tuple es k0 p2] pos) δ QT := pwt_in hm ha
theorem pwt_inLst (ha : Pw X a δ fun d1 => Pw X (.List es p2) δ fun d2 => ∃ l, items d2 = some l ∧ flatD d1 = true ∧ l.all flatD = true ∧ QT (inD d1 l)) (hm : behindInMarks .In (.List es p2) = false := by rfl) : PwT X (.Compare a [.In] [.List es p2] pos) δ QT := pwt_in hm ha
end
end AL
namespace AL
open PySem PySem.Spec PyProof.Rows L2
/-- an expression for its run alone -/
theorem sd_expr {X : Cx} {e : Expr} {rest : List Stmt} {δ : List Cell} {N : List Cell → Prop} {R : D → List Cell → Prop} {pos : Pos} (h : Pw X e δ fun _ => Sd X rest δ N R) (hsw : swapsWith e none pos.line X.env = pure false := by rfl) : Sd X (.Expr e pos :: rest) δ N R :=
  sd_step (ps_expr pe_s hsw) fun G0 H0 G H σ o E f g => h.run G H σ o.ok _ fun v d G' H' g' r q => f G' H' _ _ (o.grow g') q
theorem flat_fm_le {α β γ : Type} {xs : List α} {ys : List β} {g : α → β → Option γ} : (xs.flatMap fun x => ys.filterMap (g x)).length ≤ xs.length * ys.length := by
  induction xs with
  | nil => simp
  | cons a r ih =>
    have := List.length_filterMap_le (g a) ys
    rw [List.flatMap_cons, List.length_append, List.length_cons, Nat.add_mul, Nat.one_mul]
    omega
end AL
namespace AL
open PySem PySem.Spec PyProof.Rows L2 Mi
local macro_rules | `(tactic| walk_at "v") => `(tactic| first | exact Or.inl rfl | exact Or.inr rfl | exact Or.inr (Or.inl rfl) | exact Or.inr (Or.inr rfl))
local macro_rules | `(tactic| walk_at "we") => `(tactic| first
  | refine pw_nm rfl (by walk_at "v") rfl ?_
  | refine pw_int ?_
  | refine pw_str ?_
  | refine pw_bl ?_
  | (refine gEcmp ?_; walk_at "wc")
  | refine pw_ix ?_
  | (refine gEcall ?_; walk_at "wf")
  | refine pw_tup ?_
  | refine AL.pw_and ?_
  | refine AL.pw_or ?_
  | refine AL.pw_one ?_
  | refine AL.pw_not ?_
  | (refine gEbin ?_; walk_at "wb")
  | refine pw_slice ?_
  | refine pw_lst ?_
  | refine pw_ife ?_
  | refine pw_neg ?_
  | refine pw_non ?_
  | refine pw_gint rfl (Txt.c_MOST_NOUNS (by assumption)) ?_
  | refine pw_gint rfl (Txt.c_MOST_VERBS (by assumption)) ?_
  | refine pw_gint rfl (Txt.c_MOST_PREMISES (by assumption)) ?_
  | refine pw_gint rfl (Txt.c_MOST_SPEAKER (by assumption)) ?_
  | refine pw_gint rfl (Txt.c_MOST_ASSERTIONS (by assumption)) ?_
  | refine pw_gint rfl (Txt.c_MOST_COMMANDS (by assumption)) ?_
  )
local macro_rules | `(tactic| walk_at "wc") => `(tactic| first
  | refine pw_eq ?_
  | refine pw_ne ?_
  | refine pw_chainLe ?_
  | refine pw_lt ?_
  | refine pw_le ?_
  | refine pw_gt ?_
  | refine pw_ge ?_
  | refine pw_inG (Txt.c_TWO_NOUNS (by assumption)) rfl ?_
  | refine pw_inG (Txt.c_QUANTITIES (by assumption)) rfl ?_
  | refine pw_in rfl ?_
  )
local macro_rules | `(tactic| walk_at "wf") => `(tactic| first
  | refine pw_len (Txt.b_len (by assumption)) ?_
  | refine pw_isi_int (Txt.b_isinstance (by assumption)) (Txt.b_int (by assumption)) ?_
  | refine pw_isi_bool (Txt.b_isinstance (by assumption)) (Txt.b_bool (by assumption)) ?_
  | refine pw_isi_str (Txt.b_isinstance (by assumption)) (Txt.b_str (by assumption)) ?_
  | refine pw_isi_tuple (Txt.b_isinstance (by assumption)) (Txt.b_tuple (by assumption)) ?_
  | refine pw_isi_list (Txt.b_isinstance (by assumption)) (Txt.b_list (by assumption)) ?_
  | refine pw_tuple (Txt.b_tuple (by assumption)) ?_
  | refine pw_any rfl (Txt.b_any (by assumption)) ?_
  | refine pw_all rfl (Txt.b_all (by assumption)) ?_
  | refine pw_sum rfl (Txt.b_sum (by assumption)) ?_
  | refine pw_min2 rfl (Txt.b_min (by assumption)) ?_
  | refine pw_max2 rfl (Txt.b_max (by assumption)) ?_
  | refine pw_toInt (Txt.b_int (by assumption)) ?_
  | refine pw_call (by assumption) (by assumption) (by decide) rfl ?_
  )
local macro_rules | `(tactic| walk_at "wb") => `(tactic| first
  | refine pw_add ?_
  | refine pw_sub ?_
  | refine pw_mul ?_
  | refine pw_fdiv ?_
  | refine pw_mod ?_
  )
local macro_rules | `(tactic| walk_at "wt") => `(tactic| first
  | (refine gTcmp ?_; walk_at "wd")
  | refine pwt_w ?_
  | refine pwt_not ?_
  | refine pwt_tru (fun _ => rfl) ?_
  )
local macro_rules | `(tactic| walk_at "wd") => `(tactic| first
  | refine pwt_eq ?_
  | refine pwt_ne ?_
  | refine pwt_lt ?_
  | refine pwt_le ?_
  | refine pwt_gt ?_
  | refine pwt_ge ?_
  | refine pwt_inG (Txt.c_TWO_NOUNS (by assumption)) rfl ?_
  | refine pwt_inG (Txt.c_QUANTITIES (by assumption)) rfl ?_
  | refine pwt_in rfl ?_
  )
local macro_rules | `(tactic| walk_at "wl") => `(tactic| first
  | refine br_t rfl ?_
  | refine br_f rfl ?_
  | refine rb_t rfl ?_
  | refine rb_f rfl ?_
  | refine ⟨_, rfl, ?_⟩
  | refine ⟨_, _, rfl, rfl, ?_⟩
  | refine ⟨_, _, rfl, ?_⟩
  | refine ⟨rfl, ?_⟩
  | refine ⟨_, _, _, rfl, rfl, rfl, ?_⟩
  | refine ⟨le_line (Nat.le_of_ble_eq_true rfl), ?_⟩
  | refine ⟨_, _, _, rfl, rfl, ?_⟩
  | exact rfl
  )
local macro_rules | `(tactic| walk_at "w1") => `(tactic| first
  | (refine gE ?_; walk_at "we")
  | (refine gT ?_; walk_at "wt")
  | (refine gA ?_; first | refine pwa_cons ?_ | refine pwa_nil ?_)
  | (refine gW ?_; first | refine pww_and ?_ | refine pww_or ?_ | refine pww_and1 ?_ | refine pww_or1 ?_)
  | (refine gS ?_; walk_at "nf"; first | refine sd_ret ?_ | refine sd_if ?_ | refine sd_newLN (by assumption) rfl (by walk_at "v") (Nat.le_of_ble_eq_true rfl) ?_ | refine sd_setN (by assumption) rfl (by walk_at "v") ?_ | refine sd_appendN rfl rfl (by walk_at "v") ?_ | refine sd_nil ?_)
  | (refine gP ?_; first | refine pwp_none ?_ | refine pwp_some ?_)
  | (refine gG ?_; refine pwg_tup rfl rfl ?_)
  | (refine gGs ?_; first | refine pwgs_cons ?_ | refine pwgs_nil ?_)
  | walk_at "wl"
  )
local macro_rules | `(tactic| walk_at "w") => `(tactic| repeat walk_at "w1")

section
variable {P : Program} {w : World} {K : PySem.W.Frag} {mg : Str → Option Value} {base : Heap}
def R_is_whole : List D → D → Prop := fun ds r => ∃ v lo hi : Int, ds = [.int v, .int lo, .int hi] ∧ (lo ≤ v ∧ v ≤ hi) ∧ r = .bl true
theorem mk_is_whole {v lo hi : Int} (h : lo ≤ v ∧ v ≤ hi) : R_is_whole [.int v, .int lo, .int hi] (.bl true) := ⟨_, _, _, rfl, h, rfl⟩
local macro_rules | `(tactic| walk_at "nf") => `(tactic| first | refine nfS (δ' := [_, _, _]) rfl ?_ | refine nfE (δ' := [_, _, _]) rfl ?_ | refine nfT (δ' := [_, _, _]) rfl ?_ | refine nfTs (δ' := [_, _, _]) rfl ?_ | refine nfI (δ' := [_, _, _]) rfl ?_ | refine nfG (δ' := [_, _, _]) rfl ?_ | refine nfX (δ' := [_, _, _]) rfl ?_ | refine nfXO (δ' := [_, _, _]) rfl ?_)
theorem fn_is_whole (T : Txt K mg) : FnP P w K mg base "is_whole" 1 R_is_whole := by
  refine fn_pure T.d_is_whole sc_is_whole (fun _ _ _ _ _ _ us hl => match us, hl with | [_, _, _], _ => rfl) (fun ds r ⟨_, _, _, h, _⟩ => by rw [h]; rfl) ?_
  rintro ds r ⟨v, lo, hi, rfl, ⟨h1, h2⟩, rfl⟩ f cdv A outer s H E hr
  walk_at "w"
  refine br_t (decide_eq_true h1) ?_
  walk_at "w"
  rw [decide_eq_true h2]
def R_is_signature : List D → D → Prop := fun ds r => ∃ n m : Nat, ds = [sigD n m] ∧ SigOk n m ∧ r = .bl true
theorem mk_is_signature {n m : Nat} (h : SigOk n m) : R_is_signature [sigD n m] (.bl true) := ⟨_, _, rfl, h, rfl⟩
local macro_rules | `(tactic| walk_at "nf") => `(tactic| first | refine nfS (δ' := [_]) rfl ?_ | refine nfE (δ' := [_]) rfl ?_ | refine nfT (δ' := [_]) rfl ?_ | refine nfTs (δ' := [_]) rfl ?_ | refine nfI (δ' := [_]) rfl ?_ | refine nfG (δ' := [_]) rfl ?_ | refine nfX (δ' := [_]) rfl ?_ | refine nfXO (δ' := [_]) rfl ?_)
theorem fn_is_signature (T : Txt K mg) : FnP P w K mg base "is_signature" 2 R_is_signature := by
  have F1 : FnP P w K mg base "is_whole" 1 R_is_whole := fn_is_whole T
  refine fn_pure T.d_is_signature sc_is_signature (fun _ _ _ _ _ _ us hl => match us, hl with | [_], _ => rfl) (fun ds r ⟨_, _, h, _⟩ => by rw [h]; rfl) ?_
  rintro ds r ⟨n, m, rfl, ok, rfl⟩ f cdv A outer s H E hr
  walk_at "w"
  walk_at "w"
  refine ⟨_, mk_is_whole (by have := ok; unfold SigOk at this; omega), ?_⟩
  walk_at "w"
  walk_at "w"
  refine ⟨_, mk_is_whole (by have := ok; unfold SigOk at this; omega), ?_⟩
  walk_at "w"
end
end AL
namespace AL
open PySem PySem.Spec PyProof.Rows L2 Mi
local macro_rules | `(tactic| walk_at "v") => `(tactic| first | exact Or.inl rfl | exact Or.inr rfl | exact Or.inr (Or.inl rfl) | exact Or.inr (Or.inr rfl))
local macro_rules | `(tactic| walk_at "we") => `(tactic| first
  | refine pw_nm rfl (by walk_at "v") rfl ?_
  | refine pw_int ?_
  | refine pw_str ?_
  | refine pw_bl ?_
  | (refine gEcmp ?_; walk_at "wc")
  | refine pw_ix ?_
  | (refine gEcall ?_; walk_at "wf")
  | refine pw_tup ?_
  | refine AL.pw_and ?_
  | refine AL.pw_or ?_
  | refine AL.pw_one ?_
  | refine AL.pw_not ?_
  | (refine gEbin ?_; walk_at "wb")
  | refine pw_slice ?_
  | refine pw_lst ?_
  | refine pw_ife ?_
  | refine pw_neg ?_
  | refine pw_non ?_
  | refine pw_gint rfl (Txt.c_MOST_NOUNS (by assumption)) ?_
  | refine pw_gint rfl (Txt.c_MOST_VERBS (by assumption)) ?_
  | refine pw_gint rfl (Txt.c_MOST_PREMISES (by assumption)) ?_
  | refine pw_gint rfl (Txt.c_MOST_SPEAKER (by assumption)) ?_
  | refine pw_gint rfl (Txt.c_MOST_ASSERTIONS (by assumption)) ?_
  | refine pw_gint rfl (Txt.c_MOST_COMMANDS (by assumption)) ?_
  )
local macro_rules | `(tactic| walk_at "wc") => `(tactic| first
  | refine pw_eq ?_
  | refine pw_ne ?_
  | refine pw_chainLe ?_
  | refine pw_lt ?_
  | refine pw_le ?_
  | refine pw_gt ?_
  | refine pw_ge ?_
  | refine pw_inG (Txt.c_TWO_NOUNS (by assumption)) rfl ?_
  | refine pw_inG (Txt.c_QUANTITIES (by assumption)) rfl ?_
  | refine pw_in rfl ?_
  )
local macro_rules | `(tactic| walk_at "wf") => `(tactic| first
  | refine pw_len (Txt.b_len (by assumption)) ?_
  | refine pw_isi_int (Txt.b_isinstance (by assumption)) (Txt.b_int (by assumption)) ?_
  | refine pw_isi_bool (Txt.b_isinstance (by assumption)) (Txt.b_bool (by assumption)) ?_
  | refine pw_isi_str (Txt.b_isinstance (by assumption)) (Txt.b_str (by assumption)) ?_
  | refine pw_isi_tuple (Txt.b_isinstance (by assumption)) (Txt.b_tuple (by assumption)) ?_
  | refine pw_isi_list (Txt.b_isinstance (by assumption)) (Txt.b_list (by assumption)) ?_
  | refine pw_tuple (Txt.b_tuple (by assumption)) ?_
  | refine pw_any rfl (Txt.b_any (by assumption)) ?_
  | refine pw_all rfl (Txt.b_all (by assumption)) ?_
  | refine pw_sum rfl (Txt.b_sum (by assumption)) ?_
  | refine pw_min2 rfl (Txt.b_min (by assumption)) ?_
  | refine pw_max2 rfl (Txt.b_max (by assumption)) ?_
  | refine pw_toInt (Txt.b_int (by assumption)) ?_
  | refine pw_call (by assumption) (by assumption) (by decide) rfl ?_
  )
local macro_rules | `(tactic| walk_at "wb") => `(tactic| first
  | refine pw_add ?_
  | refine pw_sub ?_
  | refine pw_mul ?_
  | refine pw_fdiv ?_
  | refine pw_mod ?_
  )
local macro_rules | `(tactic| walk_at "wt") => `(tactic| first
  | (refine gTcmp ?_; walk_at "wd")
  | refine pwt_w ?_
  | refine pwt_not ?_
  | refine pwt_tru (fun _ => rfl) ?_
  )
local macro_rules | `(tactic| walk_at "wd") => `(tactic| first
  | refine pwt_eq ?_
  | refine pwt_ne ?_
  | refine pwt_lt ?_
  | refine pwt_le ?_
  | refine pwt_gt ?_
  | refine pwt_ge ?_
  | refine pwt_inG (Txt.c_TWO_NOUNS (by assumption)) rfl ?_
  | refine pwt_inG (Txt.c_QUANTITIES (by assumption)) rfl ?_
  | refine pwt_in rfl ?_
  )
local macro_rules | `(tactic| walk_at "wl") => `(tactic| first
  | refine br_t rfl ?_
  | refine br_f rfl ?_
  | refine rb_t rfl ?_
  | refine rb_f rfl ?_
  | refine ⟨_, rfl, ?_⟩
  | refine ⟨_, _, rfl, rfl, ?_⟩
  | refine ⟨_, _, rfl, ?_⟩
  | refine ⟨rfl, ?_⟩
  | refine ⟨_, _, _, rfl, rfl, rfl, ?_⟩
  | refine ⟨le_line (Nat.le_of_ble_eq_true rfl), ?_⟩
  | refine ⟨_, _, _, rfl, rfl, ?_⟩
  | exact rfl
  )
local macro_rules | `(tactic| walk_at "w1") => `(tactic| first
  | (refine gE ?_; walk_at "we")
  | (refine gT ?_; walk_at "wt")
  | (refine gA ?_; first | refine pwa_cons ?_ | refine pwa_nil ?_)
  | (refine gW ?_; first | refine pww_and ?_ | refine pww_or ?_ | refine pww_and1 ?_ | refine pww_or1 ?_)
  | (refine gS ?_; walk_at "nf"; first | refine sd_ret ?_ | refine sd_if ?_ | refine sd_newLN (by assumption) rfl (by walk_at "v") (Nat.le_of_ble_eq_true rfl) ?_ | refine sd_setN (by assumption) rfl (by walk_at "v") ?_ | refine sd_appendN rfl rfl (by walk_at "v") ?_ | refine sd_nil ?_)
  | (refine gP ?_; first | refine pwp_none ?_ | refine pwp_some ?_)
  | (refine gG ?_; refine pwg_tup rfl rfl ?_)
  | (refine gGs ?_; first | refine pwgs_cons ?_ | refine pwgs_nil ?_)
  | walk_at "wl"
  )
local macro_rules | `(tactic| walk_at "w") => `(tactic| repeat walk_at "w1")

section
variable {P : Program} {w : World} {K : PySem.W.Frag} {mg : Str → Option Value} {base : Heap}
def R_is_quantity : List D → D → Prop := fun ds r => ∃ q : Bool, ds = [qD q] ∧ r = .bl true
theorem mk_is_quantity {q : Bool} : R_is_quantity [qD q] (.bl true) := ⟨_, rfl, rfl⟩
local macro_rules | `(tactic| walk_at "nf") => `(tactic| first | refine nfS (δ' := [_]) rfl ?_ | refine nfE (δ' := [_]) rfl ?_ | refine nfT (δ' := [_]) rfl ?_ | refine nfTs (δ' := [_]) rfl ?_ | refine nfI (δ' := [_]) rfl ?_ | refine nfG (δ' := [_]) rfl ?_ | refine nfX (δ' := [_]) rfl ?_ | refine nfXO (δ' := [_]) rfl ?_)
theorem fn_is_quantity (T : Txt K mg) : FnP P w K mg base "is_quantity" 1 R_is_quantity := by
  refine fn_pure T.d_is_quantity sc_is_quantity (fun _ _ _ _ _ _ us hl => match us, hl with | [_], _ => rfl) (fun ds r ⟨_, h, _⟩ => by rw [h]; rfl) ?_
  rintro ds r ⟨q, rfl, rfl⟩ f cdv A outer s H E hr
  cases q <;> walk_at "w"
def R_is_noun : List D → D → Prop := fun ds r => ∃ (n m : Nat) (x : Int), ds = [sigD n m, .int x] ∧ Nn n x ∧ r = .bl true
theorem mk_is_noun {n m : Nat} {x : Int} (h : Nn n x) : R_is_noun [sigD n m, .int x] (.bl true) := ⟨_, _, _, rfl, h, rfl⟩
local macro_rules | `(tactic| walk_at "nf") => `(tactic| first | refine nfS (δ' := [_, _]) rfl ?_ | refine nfE (δ' := [_, _]) rfl ?_ | refine nfT (δ' := [_, _]) rfl ?_ | refine nfTs (δ' := [_, _]) rfl ?_ | refine nfI (δ' := [_, _]) rfl ?_ | refine nfG (δ' := [_, _]) rfl ?_ | refine nfX (δ' := [_, _]) rfl ?_ | refine nfXO (δ' := [_, _]) rfl ?_)
theorem fn_is_noun (T : Txt K mg) : FnP P w K mg base "is_noun" 2 R_is_noun := by
  have F1 : FnP P w K mg base "is_whole" 1 R_is_whole := fn_is_whole T
  refine fn_pure T.d_is_noun sc_is_noun (fun _ _ _ _ _ _ us hl => match us, hl with | [_, _], _ => rfl) (fun ds r ⟨_, _, _, h, _⟩ => by rw [h]; rfl) ?_
  rintro ds r ⟨n, m, x, rfl, h, rfl⟩ f cdv A outer s H E hr
  walk_at "w"
  refine ⟨_, mk_is_whole (by unfold Nn at h; omega), ?_⟩
  walk_at "w"
def R_is_verb : List D → D → Prop := fun ds r => ∃ (n m : Nat) (x : Int), ds = [sigD n m, .int x] ∧ Nn m x ∧ r = .bl true
theorem mk_is_verb {n m : Nat} {x : Int} (h : Nn m x) : R_is_verb [sigD n m, .int x] (.bl true) := ⟨_, _, _, rfl, h, rfl⟩
local macro_rules | `(tactic| walk_at "nf") => `(tactic| first | refine nfS (δ' := [_, _]) rfl ?_ | refine nfE (δ' := [_, _]) rfl ?_ | refine nfT (δ' := [_, _]) rfl ?_ | refine nfTs (δ' := [_, _]) rfl ?_ | refine nfI (δ' := [_, _]) rfl ?_ | refine nfG (δ' := [_, _]) rfl ?_ | refine nfX (δ' := [_, _]) rfl ?_ | refine nfXO (δ' := [_, _]) rfl ?_)
theorem fn_is_verb (T : Txt K mg) : FnP P w K mg base "is_verb" 2 R_is_verb := by
  have F1 : FnP P w K mg base "is_whole" 1 R_is_whole := fn_is_whole T
  refine fn_pure T.d_is_verb sc_is_verb (fun _ _ _ _ _ _ us hl => match us, hl with | [_, _], _ => rfl) (fun ds r ⟨_, _, _, h, _⟩ => by rw [h]; rfl) ?_
  rintro ds r ⟨n, m, x, rfl, h, rfl⟩ f cdv A outer s H E hr
  walk_at "w"
  refine ⟨_, mk_is_whole (by unfold Nn at h; omega), ?_⟩
  walk_at "w"
def R_is_sentence : List D → D → Prop := fun ds r => ∃ (n m : Nat) (x : Sen), ds = [sigD n m, senD x] ∧ x.ok n m ∧ r = .bl true
theorem mk_is_sentence {n m : Nat} {x : Sen} (h : x.ok n m) : R_is_sentence [sigD n m, senD x] (.bl true) := ⟨_, _, _, rfl, h, rfl⟩
def R_is_verb_sentence : List D → D → Prop := fun ds r => ∃ (n m : Nat) (q : Bool) (x : Int) (d : Bool) (v : Int) (b p : Bool) (y : Int), ds = [sigD n m, senD (.verb q x d v b p y)] ∧ (Sen.verb q x d v b p y).ok n m ∧ r = .bl true
local macro_rules | `(tactic| walk_at "nf") => `(tactic| first | refine nfS (δ' := [_, _]) rfl ?_ | refine nfE (δ' := [_, _]) rfl ?_ | refine nfT (δ' := [_, _]) rfl ?_ | refine nfTs (δ' := [_, _]) rfl ?_ | refine nfI (δ' := [_, _]) rfl ?_ | refine nfG (δ' := [_, _]) rfl ?_ | refine nfX (δ' := [_, _]) rfl ?_ | refine nfXO (δ' := [_, _]) rfl ?_)
theorem fn_is_verb_sentence (T : Txt K mg) : FnP P w K mg base "is_verb_sentence" 3 R_is_verb_sentence := by
  have F1 : FnP P w K mg base "is_quantity" 1 R_is_quantity := fn_is_quantity T
  have F2 : FnP P w K mg base "is_noun" 2 R_is_noun := fn_is_noun T
  have F3 : FnP P w K mg base "is_verb" 2 R_is_verb := fn_is_verb T
  refine fn_pure T.d_is_verb_sentence sc_is_verb_sentence (fun _ _ _ _ _ _ us hl => match us, hl with | [_, _], _ => rfl) (fun ds r ⟨_, _, _, _, _, _, _, _, _, h, _⟩ => by rw [h]; rfl) ?_
  rintro ds r ⟨n, m, q, x, d, v, b, p, y, rfl, ⟨h1, h2, h3⟩, rfl⟩ f cdv A outer s H E hr
  walk_at "w"
  refine ⟨_, mk_is_quantity, ?_⟩
  walk_at "w"
  refine ⟨_, mk_is_quantity, ?_⟩
  walk_at "w"
  refine ⟨_, mk_is_verb h3, ?_⟩
  walk_at "w"
  refine ⟨_, mk_is_noun h1, ?_⟩
  walk_at "w"
  refine ⟨_, mk_is_noun h2, ?_⟩
  walk_at "w"
def R_is_self_sentence : List D → D → Prop := fun ds r => ∃ (n m : Nat) (q : Bool) (x : Int) (d : Bool) (v : Int), ds = [sigD n m, senD (.self q x d v)] ∧ (Sen.self q x d v).ok n m ∧ r = .bl true
local macro_rules | `(tactic| walk_at "nf") => `(tactic| first | refine nfS (δ' := [_, _]) rfl ?_ | refine nfE (δ' := [_, _]) rfl ?_ | refine nfT (δ' := [_, _]) rfl ?_ | refine nfTs (δ' := [_, _]) rfl ?_ | refine nfI (δ' := [_, _]) rfl ?_ | refine nfG (δ' := [_, _]) rfl ?_ | refine nfX (δ' := [_, _]) rfl ?_ | refine nfXO (δ' := [_, _]) rfl ?_)
theorem fn_is_self_sentence (T : Txt K mg) : FnP P w K mg base "is_self_sentence" 3 R_is_self_sentence := by
  have F1 : FnP P w K mg base "is_quantity" 1 R_is_quantity := fn_is_quantity T
  have F2 : FnP P w K mg base "is_noun" 2 R_is_noun := fn_is_noun T
  have F3 : FnP P w K mg base "is_verb" 2 R_is_verb := fn_is_verb T
  refine fn_pure T.d_is_self_sentence sc_is_self_sentence (fun _ _ _ _ _ _ us hl => match us, hl with | [_, _], _ => rfl) (fun ds r ⟨_, _, _, _, _, _, h, _⟩ => by rw [h]; rfl) ?_
  rintro ds r ⟨n, m, q, x, d, v, rfl, ⟨h1, h3⟩, rfl⟩ f cdv A outer s H E hr
  walk_at "w"
  refine ⟨_, mk_is_quantity, ?_⟩
  walk_at "w"
  refine ⟨_, mk_is_noun h1, ?_⟩
  walk_at "w"
  refine ⟨_, mk_is_verb h3, ?_⟩
  walk_at "w"
local macro_rules | `(tactic| walk_at "nf") => `(tactic| first | refine nfS (δ' := [_, _]) rfl ?_ | refine nfE (δ' := [_, _]) rfl ?_ | refine nfT (δ' := [_, _]) rfl ?_ | refine nfTs (δ' := [_, _]) rfl ?_ | refine nfI (δ' := [_, _]) rfl ?_ | refine nfG (δ' := [_, _]) rfl ?_ | refine nfX (δ' := [_, _]) rfl ?_ | refine nfXO (δ' := [_, _]) rfl ?_)
theorem fn_is_sentence (T : Txt K mg) : FnP P w K mg base "is_sentence" 4 R_is_sentence := by
  have F1 : FnP P w K mg base "is_verb_sentence" 3 R_is_verb_sentence := fn_is_verb_sentence T
  have F2 : FnP P w K mg base "is_noun" 2 R_is_noun := fn_is_noun T
  have F3 : FnP P w K mg base "is_self_sentence" 3 R_is_self_sentence := fn_is_self_sentence T
  refine fn_pure T.d_is_sentence sc_is_sentence (fun _ _ _ _ _ _ us hl => match us, hl with | [_, _], _ => rfl) (fun ds r ⟨_, _, _, h, _⟩ => by rw [h]; rfl) ?_
  rintro ds r ⟨n, m, x, rfl, h, rfl⟩ f cdv A outer s H E hr
  cases x with
  | verb q x d v b p y =>
    walk_at "w"
    refine ⟨_, ⟨n, m, q, x, d, v, b, p, y, rfl, h, rfl⟩, ?_⟩
    walk_at "w"
  | self q x d v =>
    walk_at "w"
    refine ⟨_, ⟨n, m, q, x, d, v, rfl, h, rfl⟩, ?_⟩
    walk_at "w"
  | _ x y =>
    walk_at "w"
    refine ⟨_, mk_is_noun h.1, ?_⟩
    walk_at "w"
    refine ⟨_, mk_is_noun h.2, ?_⟩
    walk_at "w"
end
end AL
namespace AL
open PySem PySem.Spec PyProof.Rows L2 Mi
local macro_rules | `(tactic| walk_at "v") => `(tactic| first | exact Or.inl rfl | exact Or.inr rfl | exact Or.inr (Or.inl rfl) | exact Or.inr (Or.inr rfl))
local macro_rules | `(tactic| walk_at "we") => `(tactic| first
  | refine pw_nm rfl (by walk_at "v") rfl ?_
  | refine pw_int ?_
  | refine pw_str ?_
  | refine pw_bl ?_
  | (refine gEcmp ?_; walk_at "wc")
  | refine pw_ix ?_
  | (refine gEcall ?_; walk_at "wf")
  | refine pw_tup ?_
  | refine AL.pw_and ?_
  | refine AL.pw_or ?_
  | refine AL.pw_one ?_
  | refine AL.pw_not ?_
  | (refine gEbin ?_; walk_at "wb")
  | refine pw_slice ?_
  | refine pw_lst ?_
  | refine pw_ife ?_
  | refine pw_neg ?_
  | refine pw_non ?_
  | refine pw_gint rfl (Txt.c_MOST_NOUNS (by assumption)) ?_
  | refine pw_gint rfl (Txt.c_MOST_VERBS (by assumption)) ?_
  | refine pw_gint rfl (Txt.c_MOST_PREMISES (by assumption)) ?_
  | refine pw_gint rfl (Txt.c_MOST_SPEAKER (by assumption)) ?_
  | refine pw_gint rfl (Txt.c_MOST_ASSERTIONS (by assumption)) ?_
  | refine pw_gint rfl (Txt.c_MOST_COMMANDS (by assumption)) ?_
  )
local macro_rules | `(tactic| walk_at "wc") => `(tactic| first
  | refine pw_eq ?_
  | refine pw_ne ?_
  | refine pw_chainLe ?_
  | refine pw_lt ?_
  | refine pw_le ?_
  | refine pw_gt ?_
  | refine pw_ge ?_
  | refine pw_inG (Txt.c_TWO_NOUNS (by assumption)) rfl ?_
  | refine pw_inG (Txt.c_QUANTITIES (by assumption)) rfl ?_
  | refine pw_in rfl ?_
  )
local macro_rules | `(tactic| walk_at "wf") => `(tactic| first
  | refine pw_len (Txt.b_len (by assumption)) ?_
  | refine pw_isi_int (Txt.b_isinstance (by assumption)) (Txt.b_int (by assumption)) ?_
  | refine pw_isi_bool (Txt.b_isinstance (by assumption)) (Txt.b_bool (by assumption)) ?_
  | refine pw_isi_str (Txt.b_isinstance (by assumption)) (Txt.b_str (by assumption)) ?_
  | refine pw_isi_tuple (Txt.b_isinstance (by assumption)) (Txt.b_tuple (by assumption)) ?_
  | refine pw_isi_list (Txt.b_isinstance (by assumption)) (Txt.b_list (by assumption)) ?_
  | refine pw_tuple (Txt.b_tuple (by assumption)) ?_
  | refine pw_any rfl (Txt.b_any (by assumption)) ?_
  | refine pw_all rfl (Txt.b_all (by assumption)) ?_
  | refine pw_sum rfl (Txt.b_sum (by assumption)) ?_
  | refine pw_min2 rfl (Txt.b_min (by assumption)) ?_
  | refine pw_max2 rfl (Txt.b_max (by assumption)) ?_
  | refine pw_toInt (Txt.b_int (by assumption)) ?_
  | refine pw_call (by assumption) (by assumption) (by decide) rfl ?_
  )
local macro_rules | `(tactic| walk_at "wb") => `(tactic| first
  | refine pw_add ?_
  | refine pw_sub ?_
  | refine pw_mul ?_
  | refine pw_fdiv ?_
  | refine pw_mod ?_
  )
local macro_rules | `(tactic| walk_at "wt") => `(tactic| first
  | (refine gTcmp ?_; walk_at "wd")
  | refine pwt_w ?_
  | refine pwt_not ?_
  | refine pwt_tru (fun _ => rfl) ?_
  )
local macro_rules | `(tactic| walk_at "wd") => `(tactic| first
  | refine pwt_eq ?_
  | refine pwt_ne ?_
  | refine pwt_lt ?_
  | refine pwt_le ?_
  | refine pwt_gt ?_
  | refine pwt_ge ?_
  | refine pwt_inG (Txt.c_TWO_NOUNS (by assumption)) rfl ?_
  | refine pwt_inG (Txt.c_QUANTITIES (by assumption)) rfl ?_
  | refine pwt_in rfl ?_
  )
local macro_rules | `(tactic| walk_at "wl") => `(tactic| first
  | refine br_t rfl ?_
  | refine br_f rfl ?_
  | refine rb_t rfl ?_
  | refine rb_f rfl ?_
  | refine ⟨_, rfl, ?_⟩
  | refine ⟨_, _, rfl, rfl, ?_⟩
  | refine ⟨_, _, rfl, ?_⟩
  | refine ⟨rfl, ?_⟩
  | refine ⟨_, _, _, rfl, rfl, rfl, ?_⟩
  | refine ⟨le_line (Nat.le_of_ble_eq_true rfl), ?_⟩
  | refine ⟨_, _, _, rfl, rfl, ?_⟩
  | exact rfl
  )
local macro_rules | `(tactic| walk_at "w1") => `(tactic| first
  | (refine gE ?_; walk_at "we")
  | (refine gT ?_; walk_at "wt")
  | (refine gA ?_; first | refine pwa_cons ?_ | refine pwa_nil ?_)
  | (refine gW ?_; first | refine pww_and ?_ | refine pww_or ?_ | refine pww_and1 ?_ | refine pww_or1 ?_)
  | (refine gS ?_; walk_at "nf"; first | refine sd_ret ?_ | refine sd_if ?_ | refine sd_newLN (by assumption) rfl (by walk_at "v") (Nat.le_of_ble_eq_true rfl) ?_ | refine sd_setN (by assumption) rfl (by walk_at "v") ?_ | refine sd_appendN rfl rfl (by walk_at "v") ?_ | refine sd_nil ?_)
  | (refine gP ?_; first | refine pwp_none ?_ | refine pwp_some ?_)
  | (refine gG ?_; refine pwg_tup rfl rfl ?_)
  | (refine gGs ?_; first | refine pwgs_cons ?_ | refine pwgs_nil ?_)
  | walk_at "wl"
  )
local macro_rules | `(tactic| walk_at "w") => `(tactic| repeat walk_at "w1")

section
variable {P : Program} {w : World} {K : PySem.W.Frag} {mg : Str → Option Value} {base : Heap}
def R_are_premises : List D → D → Prop := fun ds r => ∃ (n m : Nat) (ps : List Sen), ds = [sigD n m, sensD ps] ∧ (ps.length ≤ 8 ∧ ∀ s ∈ ps, s.ok n m) ∧ r = .bl true
theorem mk_are_premises {n m : Nat} {ps : List Sen} (h : ps.length ≤ 8 ∧ ∀ s ∈ ps, s.ok n m) : R_are_premises [sigD n m, sensD ps] (.bl true) := ⟨_, _, _, rfl, h, rfl⟩
local macro_rules | `(tactic| walk_at "nf") => `(tactic| first | refine nfS (δ' := [_, _, _]) rfl ?_ | refine nfE (δ' := [_, _, _]) rfl ?_ | refine nfT (δ' := [_, _, _]) rfl ?_ | refine nfTs (δ' := [_, _, _]) rfl ?_ | refine nfI (δ' := [_, _, _]) rfl ?_ | refine nfG (δ' := [_, _, _]) rfl ?_ | refine nfX (δ' := [_, _, _]) rfl ?_ | refine nfXO (δ' := [_, _, _]) rfl ?_)
theorem fn_are_premises (T : Txt K mg) : FnP P w K mg base "are_premises" 5 R_are_premises := by
  have F1 : FnP P w K mg base "is_sentence" 4 R_is_sentence := fn_is_sentence T
  refine fn_pure T.d_are_premises sc_are_premises (fun _ _ _ _ _ _ us hl => match us, hl with | [_, _], _ => rfl) (fun ds r ⟨_, _, _, h, _⟩ => by rw [h]; rfl) ?_
  rintro ds r ⟨n, m, ps, rfl, ⟨h1, h2⟩, rfl⟩ f cdv A outer s H E hr
  walk_at "w"
  refine br_f (decide_eq_false (by rw [List.length_map]; omega)) ?_
  walk_at "w"
  refine pw_lcM (own := [("sentence", 2)]) rfl sc_are_premises.nd (blk_of sc_are_premises rfl rfl (by decide +kernel)) ?_
  refine pwi_tup ?_
  walk_at "w"
  refine ⟨Sen, ps, senD, fun _ => .bl true, [2], rfl, by decide, fun x hx => ?_, ?_⟩
  · intro s0 H0 C cl fp
    refine pwg_name sc_are_premises.nd rfl (Or.inl rfl) ?_
    intro s1 H1 C1 cl1 fp1
    walk_at "w"
    refine ⟨_, mk_is_sentence (h2 x hx), rfl⟩
  · refine pwa_nil ?_
    refine ⟨_, mm, congrArg D.bl ?_⟩
    simp
def R_check_signature : List D → D → Prop := fun ds r => ∃ n m : Nat, ds = [sigD n m] ∧ SigOk n m ∧ r = .non
local macro_rules | `(tactic| walk_at "nf") => `(tactic| first | refine nfS (δ' := [_]) rfl ?_ | refine nfE (δ' := [_]) rfl ?_ | refine nfT (δ' := [_]) rfl ?_ | refine nfTs (δ' := [_]) rfl ?_ | refine nfI (δ' := [_]) rfl ?_ | refine nfG (δ' := [_]) rfl ?_ | refine nfX (δ' := [_]) rfl ?_ | refine nfXO (δ' := [_]) rfl ?_)
theorem fn_check_signature (T : Txt K mg) : FnP P w K mg base "check_signature" 3 R_check_signature := by
  have F1 : FnP P w K mg base "is_signature" 2 R_is_signature := fn_is_signature T
  refine fn_pure T.d_check_signature sc_check_signature (fun _ _ _ _ _ _ us hl => match us, hl with | [_], _ => rfl) (fun ds r ⟨_, _, h, _⟩ => by rw [h]; rfl) ?_
  rintro ds r ⟨n, m, rfl, ok, rfl⟩ f cdv A outer s H E hr
  walk_at "w"
  refine ⟨_, mk_is_signature ok, ?_⟩
  walk_at "w"
def Prem (n m : Nat) (ps : List Sen) : Prop := SigOk n m ∧ ps.length ≤ 8 ∧ ∀ s ∈ ps, s.ok n m
def R_check_premises : List D → D → Prop := fun ds r => ∃ (n m : Nat) (ps : List Sen), ds = [sigD n m, sensD ps] ∧ Prem n m ps ∧ r = .non
local macro_rules | `(tactic| walk_at "nf") => `(tactic| first | refine nfS (δ' := [_, _]) rfl ?_ | refine nfE (δ' := [_, _]) rfl ?_ | refine nfT (δ' := [_, _]) rfl ?_ | refine nfTs (δ' := [_, _]) rfl ?_ | refine nfI (δ' := [_, _]) rfl ?_ | refine nfG (δ' := [_, _]) rfl ?_ | refine nfX (δ' := [_, _]) rfl ?_ | refine nfXO (δ' := [_, _]) rfl ?_)
theorem fn_check_premises (T : Txt K mg) : FnP P w K mg base "check_premises" 6 R_check_premises := by
  have F1 : FnP P w K mg base "is_signature" 2 R_is_signature := fn_is_signature T
  have F2 : FnP P w K mg base "are_premises" 5 R_are_premises := fn_are_premises T
  refine fn_pure T.d_check_premises sc_check_premises (fun _ _ _ _ _ _ us hl => match us, hl with | [_, _], _ => rfl) (fun ds r ⟨_, _, _, h, _⟩ => by rw [h]; rfl) ?_
  rintro ds r ⟨n, m, ps, rfl, ok, rfl⟩ f cdv A outer s H E hr
  walk_at "w"
  refine ⟨_, mk_is_signature ok.1, ?_⟩
  walk_at "w"
  refine ⟨_, mk_are_premises ok.2, ?_⟩
  walk_at "w"
end
end AL
namespace AL
open PySem PySem.Spec PyProof.Rows L2 Mi
local macro_rules | `(tactic| walk_at "v") => `(tactic| first | exact Or.inl rfl | exact Or.inr rfl | exact Or.inr (Or.inl rfl) | exact Or.inr (Or.inr rfl))
local macro_rules | `(tactic| walk_at "we") => `(tactic| first
  | refine pw_nm rfl (by walk_at "v") rfl ?_
  | refine pw_int ?_
  | refine pw_str ?_
  | refine pw_bl ?_
  | (refine gEcmp ?_; walk_at "wc")
  | refine pw_ix ?_
  | (refine gEcall ?_; walk_at "wf")
  | refine pw_tup ?_
  | refine AL.pw_and ?_
  | refine AL.pw_or ?_
  | refine AL.pw_one ?_
  | refine AL.pw_not ?_
  | (refine gEbin ?_; walk_at "wb")
  | refine pw_slice ?_
  | refine pw_lst ?_
  | refine pw_ife ?_
  | refine pw_neg ?_
  | refine pw_non ?_
  | refine pw_gint rfl (Txt.c_MOST_NOUNS (by assumption)) ?_
  | refine pw_gint rfl (Txt.c_MOST_VERBS (by assumption)) ?_
  | refine pw_gint rfl (Txt.c_MOST_PREMISES (by assumption)) ?_
  | refine pw_gint rfl (Txt.c_MOST_SPEAKER (by assumption)) ?_
  | refine pw_gint rfl (Txt.c_MOST_ASSERTIONS (by assumption)) ?_
  | refine pw_gint rfl (Txt.c_MOST_COMMANDS (by assumption)) ?_
  )
local macro_rules | `(tactic| walk_at "wc") => `(tactic| first
  | refine pw_eq ?_
  | refine pw_ne ?_
  | refine pw_chainLe ?_
  | refine pw_lt ?_
  | refine pw_le ?_
  | refine pw_gt ?_
  | refine pw_ge ?_
  | refine pw_inG (Txt.c_TWO_NOUNS (by assumption)) rfl ?_
  | refine pw_inG (Txt.c_QUANTITIES (by assumption)) rfl ?_
  | refine pw_in rfl ?_
  )
local macro_rules | `(tactic| walk_at "wf") => `(tactic| first
  | refine pw_len (Txt.b_len (by assumption)) ?_
  | refine pw_isi_int (Txt.b_isinstance (by assumption)) (Txt.b_int (by assumption)) ?_
  | refine pw_isi_bool (Txt.b_isinstance (by assumption)) (Txt.b_bool (by assumption)) ?_
  | refine pw_isi_str (Txt.b_isinstance (by assumption)) (Txt.b_str (by assumption)) ?_
  | refine pw_isi_tuple (Txt.b_isinstance (by assumption)) (Txt.b_tuple (by assumption)) ?_
  | refine pw_isi_list (Txt.b_isinstance (by assumption)) (Txt.b_list (by assumption)) ?_
  | refine pw_tuple (Txt.b_tuple (by assumption)) ?_
  | refine pw_any rfl (Txt.b_any (by assumption)) ?_
  | refine pw_all rfl (Txt.b_all (by assumption)) ?_
  | refine pw_sum rfl (Txt.b_sum (by assumption)) ?_
  | refine pw_min2 rfl (Txt.b_min (by assumption)) ?_
  | refine pw_max2 rfl (Txt.b_max (by assumption)) ?_
  | refine pw_toInt (Txt.b_int (by assumption)) ?_
  | refine pw_call (by assumption) (by assumption) (by decide) rfl ?_
  )
local macro_rules | `(tactic| walk_at "wb") => `(tactic| first
  | refine pw_add ?_
  | refine pw_sub ?_
  | refine pw_mul ?_
  | refine pw_fdiv ?_
  | refine pw_mod ?_
  )
local macro_rules | `(tactic| walk_at "wt") => `(tactic| first
  | (refine gTcmp ?_; walk_at "wd")
  | refine pwt_w ?_
  | refine pwt_not ?_
  | refine pwt_tru (fun _ => rfl) ?_
  )
local macro_rules | `(tactic| walk_at "wd") => `(tactic| first
  | refine pwt_eq ?_
  | refine pwt_ne ?_
  | refine pwt_lt ?_
  | refine pwt_le ?_
  | refine pwt_gt ?_
  | refine pwt_ge ?_
  | refine pwt_inG (Txt.c_TWO_NOUNS (by assumption)) rfl ?_
  | refine pwt_inG (Txt.c_QUANTITIES (by assumption)) rfl ?_
  | refine pwt_in rfl ?_
  )
local macro_rules | `(tactic| walk_at "wl") => `(tactic| first
  | refine br_t rfl ?_
  | refine br_f rfl ?_
  | refine rb_t rfl ?_
  | refine rb_f rfl ?_
  | refine ⟨_, rfl, ?_⟩
  | refine ⟨_, _, rfl, rfl, ?_⟩
  | refine ⟨_, _, rfl, ?_⟩
  | refine ⟨rfl, ?_⟩
  | refine ⟨_, _, _, rfl, rfl, rfl, ?_⟩
  | refine ⟨le_line (Nat.le_of_ble_eq_true rfl), ?_⟩
  | refine ⟨_, _, _, rfl, rfl, ?_⟩
  | exact rfl
  )
local macro_rules | `(tactic| walk_at "w1") => `(tactic| first
  | (refine gE ?_; walk_at "we")
  | (refine gT ?_; walk_at "wt")
  | (refine gA ?_; first | refine pwa_cons ?_ | refine pwa_nil ?_)
  | (refine gW ?_; first | refine pww_and ?_ | refine pww_or ?_ | refine pww_and1 ?_ | refine pww_or1 ?_)
  | (refine gS ?_; walk_at "nf"; first | refine sd_ret ?_ | refine sd_if ?_ | refine sd_newLN (by assumption) rfl (by walk_at "v") (Nat.le_of_ble_eq_true rfl) ?_ | refine sd_setN (by assumption) rfl (by walk_at "v") ?_ | refine sd_appendN rfl rfl (by walk_at "v") ?_ | refine sd_nil ?_)
  | (refine gP ?_; first | refine pwp_none ?_ | refine pwp_some ?_)
  | (refine gG ?_; refine pwg_tup rfl rfl ?_)
  | (refine gGs ?_; first | refine pwgs_cons ?_ | refine pwgs_nil ?_)
  | walk_at "wl"
  )
local macro_rules | `(tactic| walk_at "w") => `(tactic| repeat walk_at "w1")

section
variable {P : Program} {w : World} {K : PySem.W.Frag} {mg : Str → Option Value} {base : Heap}
def tabs (s m : Tab) : Prop := s.length ≤ 16 ∧ m.length ≤ 16
def R_steps : List D → D → Prop := fun ds r => ∃ s m : Tab, ds = [.tab s, .tab m] ∧ tabs s m ∧ r = .tup [.lst ((moreOf s m).map prD), .lst ((manyOf s m).map prD)]
theorem flat_le {α β : Type} {f : α → List β} {k : Nat} : ∀ {l : List α}, (∀ x ∈ l, (f x).length ≤ k) → (l.flatMap f).length ≤ l.length * k
  | [], _ => by simp
  | a :: r, h => by
    have h1 := flat_le (l := r) fun x hx => h x (by simp [hx])
    have h2 := h a (by simp)
    rw [List.flatMap_cons, List.length_append, List.length_cons, Nat.add_mul, Nat.one_mul]
    omega
theorem chain_eq (t : Tab) : (t.flatMap fun p => t.filterMap fun q => if q.1 = p.2 then some (prD (p.1, q.2)) else none) = (chain t).map prD := by
  unfold chain
  rw [List.map_flatMap]
  congr 1
  funext p
  rw [← fm_map]
  congr 1
  funext q
  by_cases h : q.1 = p.2 <;> simp [h]
local macro_rules | `(tactic| walk_at "nf") => `(tactic| first | refine nfS (δ' := [_, _, _, _, _, _, _, _]) rfl ?_ | refine nfE (δ' := [_, _, _, _, _, _, _, _]) rfl ?_ | refine nfT (δ' := [_, _, _, _, _, _, _, _]) rfl ?_ | refine nfTs (δ' := [_, _, _, _, _, _, _, _]) rfl ?_ | refine nfI (δ' := [_, _, _, _, _, _, _, _]) rfl ?_ | refine nfG (δ' := [_, _, _, _, _, _, _, _]) rfl ?_ | refine nfX (δ' := [_, _, _, _, _, _, _, _]) rfl ?_ | refine nfXO (δ' := [_, _, _, _, _, _, _, _]) rfl ?_)
theorem fn_steps (T : Txt K mg) : FnP P w K mg base "steps_of_table" 1 R_steps := by
  refine fn_pure T.d_steps_of_table sc_steps_of_table (fun _ _ _ _ _ _ us hl => match us, hl with | [_, _], _ => rfl) (fun ds r ⟨_, _, h, _⟩ => by rw [h]; rfl) ?_
  rintro ds r ⟨t, u, rfl, ⟨h1, h2⟩, rfl⟩ f cdv A outer s H E hr
  have ok1 := sc_steps_of_table.nd
  have z : ∀ n : Nat, n ≤ 1000 → n ≤ sizeLine := fun n h => le_line (by omega)
  walk_at "nf"
  refine sd_lockO 0 (show 2 < 8 by decide) rfl (ps_lc2T (i := 2) (own := [("x", 4), ("y", 5), ("other", 6), ("z", 7)]) (vs1 := [6, 7]) rfl ok1 (blk_of sc_steps_of_table rfl rfl (by decide +kernel)) (by decide) rfl rfl rfl (fun _ => rfl) (fun _ _ => rfl)) ?_
  walk_at "nf"
  refine lc2o (pwi_lk rfl (by walk_at "v") rfl (z _ (by omega)) ⟨Int × Int, Int × Int, t, prD, fun _ => t, prD, fun p q => if q.1 = p.2 then some (prD (p.1, q.2)) else none, [4, 5], [6, 7], rfl, by decide, by decide, Nat.le_trans (flat_le (k := 16) fun _ _ => h1) (z _ (by omega)), ?_, ?_⟩)
  · intro p hp _ _ _ _ _
    refine pwg_pair ok1 rfl rfl rfl (by walk_at "v") (by walk_at "v") ?_
    intro _ _ _ _ _; walk_at "nf"
    refine pwi_lk rfl (by walk_at "v") rfl (z _ (by omega)) ⟨rfl, fun q hq => ?_⟩
    intro _ _ _ _ _; walk_at "nf"
    refine pwg_pair ok1 rfl rfl rfl (by walk_at "v") (by walk_at "v") ?_
    intro _ _ _ _ _; walk_at "nf"
    refine pwts_one ?_
    walk_at "w"
    refine ⟨fun h => if_neg (of_decide_eq_false h), fun h => ?_⟩
    intro _ _ _ _ _; walk_at "nf"
    walk_at "w"
    exact if_pos (of_decide_eq_true h)
  · rw [chain_eq]
    walk_at "nf"
    refine sd_extendN rfl rfl (by walk_at "v") ?_
    refine pw_lockT 0 rfl ?_
    walk_at "nf"
    refine pw_lc (own := [("x", 4), ("y", 5)]) rfl ok1 (blk_of sc_steps_of_table rfl rfl (by decide +kernel)) ?_
    refine pwi_lk rfl (by walk_at "v") rfl (z _ (by omega)) ⟨Int × Int, t, prD, fun p => if p ∈ u then some (prD (p.2, p.1)) else none, [4, 5], rfl, by decide, ?_, ?_⟩
    · intro p hp _ _ _ _ _
      refine pwg_pair ok1 rfl rfl rfl (by walk_at "v") (by walk_at "v") ?_
      intro _ _ _ _ _; walk_at "nf"
      refine pwts_one ?_
      refine pwt_inT (hu_of hr) ?_
      walk_at "w"
      refine ⟨fun h => if_neg (of_decide_eq_false h), fun h => ?_⟩
      intro _ _ _ _ _; walk_at "nf"
      walk_at "w"
      exact if_pos (of_decide_eq_true h)
    · have ee : ((chain t).map prD ++ t.filterMap fun p => if p ∈ u then some (prD (p.2, p.1)) else none) = (moreOf t u).map prD := by
        unfold moreOf
        rw [List.map_append, ← fm_map]
        congr 2
        funext p
        by_cases h : p ∈ u <;> simp [h]
      refine ⟨_, rfl, ?_, ?_⟩
      · have a1 := flat_le (k := 16) (l := t) (f := fun p => t.filterMap fun q => if q.1 = p.2 then some (p.1, q.2) else none) fun p _ => Nat.le_trans (List.length_filterMap_le _ _) h1
        have a2 := List.length_filterMap_le (fun p => if p ∈ u then some (prD (p.2, p.1)) else none) t
        refine z _ ?_
        rw [List.length_map]
        show (t.flatMap _).length + _ ≤ _
        omega
      rw [ee]
      -- many
      walk_at "nf"
      refine sd_setN ok1 rfl (by walk_at "v") ?_
      refine pw_catL ?_
      refine pw_lockT 0 rfl ?_
      walk_at "nf"
      refine pw_lcM (own := [("x", 4), ("y", 5)]) rfl ok1 (blk_of sc_steps_of_table rfl rfl (by decide +kernel)) ?_
      refine pwi_lk rfl (by walk_at "v") rfl (z _ (by omega)) ⟨Int × Int, t, prD, fun p => prD (p.2, p.1), [4, 5], rfl, by decide, ?_, ?_⟩
      · intro p hp _ _ _ _ _
        refine pwg_pair ok1 rfl rfl rfl (by walk_at "v") (by walk_at "v") ?_
        intro _ _ _ _ _; walk_at "nf"
        walk_at "w"
      · refine pw_lockT 1 rfl ?_
        walk_at "nf"
        refine pw_lc2 (own := [("x", 4), ("y", 5), ("other", 6), ("z", 7)]) (vs1 := [6, 7]) rfl ok1 (blk_of sc_steps_of_table rfl rfl (by decide +kernel)) (by decide) ?_
        refine pwi_lk rfl (by walk_at "v") rfl (z _ (by omega)) ⟨Int × Int, Int × Int, u, prD, fun _ => u, prD, fun p q => if q.1 = p.2 then some (prD (p.1, q.2)) else none, [4, 5], [6, 7], rfl, by decide, by decide, Nat.le_trans (flat_le (k := 16) fun _ _ => h2) (z _ (by omega)), ?_, ?_⟩
        · intro p hp _ _ _ _ _
          refine pwg_pair ok1 rfl rfl rfl (by walk_at "v") (by walk_at "v") ?_
          intro _ _ _ _ _; walk_at "nf"
          refine pwi_lk rfl (by walk_at "v") rfl (z _ (by omega)) ⟨rfl, fun q hq => ?_⟩
          intro _ _ _ _ _; walk_at "nf"
          refine pwg_pair ok1 rfl rfl rfl (by walk_at "v") (by walk_at "v") ?_
          intro _ _ _ _ _; walk_at "nf"
          refine pwts_one ?_
          walk_at "w"
          refine ⟨fun h => if_neg (of_decide_eq_false h), fun h => ?_⟩
          intro _ _ _ _ _; walk_at "nf"
          walk_at "w"
          exact if_pos (of_decide_eq_true h)
        · rw [chain_eq]
          have e2 : (t.map fun p => prD (p.2, p.1)) ++ (chain u).map prD = (manyOf t u).map prD := by
            unfold manyOf
            rw [List.map_append, List.map_map]; rfl
          refine ⟨_, _, rfl, rfl, ?_, ?_⟩
          · have a1 := flat_le (k := 16) (l := u) (f := fun p => u.filterMap fun q => if q.1 = p.2 then some (p.1, q.2) else none) fun p _ => Nat.le_trans (List.length_filterMap_le _ _) h2
            refine z _ ?_
            rw [List.length_map, List.length_map]
            show _ + (u.flatMap _).length ≤ _
            omega
          rw [e2]
          walk_at "nf"
          refine sd_freeze 2 rfl rfl ?_
          walk_at "w"
end
end AL
namespace AL
open PySem PySem.Spec PyProof.Rows L2 Mi
local macro_rules | `(tactic| walk_at "v") => `(tactic| first | exact Or.inl rfl | exact Or.inr rfl | exact Or.inr (Or.inl rfl) | exact Or.inr (Or.inr rfl))
local macro_rules | `(tactic| walk_at "we") => `(tactic| first
  | refine pw_nm rfl (by walk_at "v") rfl ?_
  | refine pw_int ?_
  | refine pw_str ?_
  | refine pw_bl ?_
  | (refine gEcmp ?_; walk_at "wc")
  | refine pw_ix ?_
  | (refine gEcall ?_; walk_at "wf")
  | refine pw_tup ?_
  | refine AL.pw_and ?_
  | refine AL.pw_or ?_
  | refine AL.pw_one ?_
  | refine AL.pw_not ?_
  | (refine gEbin ?_; walk_at "wb")
  | refine pw_slice ?_
  | refine pw_lst ?_
  | refine pw_ife ?_
  | refine pw_neg ?_
  | refine pw_non ?_
  | refine pw_gint rfl (Txt.c_MOST_NOUNS (by assumption)) ?_
  | refine pw_gint rfl (Txt.c_MOST_VERBS (by assumption)) ?_
  | refine pw_gint rfl (Txt.c_MOST_PREMISES (by assumption)) ?_
  | refine pw_gint rfl (Txt.c_MOST_SPEAKER (by assumption)) ?_
  | refine pw_gint rfl (Txt.c_MOST_ASSERTIONS (by assumption)) ?_
  | refine pw_gint rfl (Txt.c_MOST_COMMANDS (by assumption)) ?_
  )
local macro_rules | `(tactic| walk_at "wc") => `(tactic| first
  | refine pw_eq ?_
  | refine pw_ne ?_
  | refine pw_chainLe ?_
  | refine pw_lt ?_
  | refine pw_le ?_
  | refine pw_gt ?_
  | refine pw_ge ?_
  | refine pw_inG (Txt.c_TWO_NOUNS (by assumption)) rfl ?_
  | refine pw_inG (Txt.c_QUANTITIES (by assumption)) rfl ?_
  | refine pw_in rfl ?_
  )
local macro_rules | `(tactic| walk_at "wf") => `(tactic| first
  | refine pw_len (Txt.b_len (by assumption)) ?_
  | refine pw_isi_int (Txt.b_isinstance (by assumption)) (Txt.b_int (by assumption)) ?_
  | refine pw_isi_bool (Txt.b_isinstance (by assumption)) (Txt.b_bool (by assumption)) ?_
  | refine pw_isi_str (Txt.b_isinstance (by assumption)) (Txt.b_str (by assumption)) ?_
  | refine pw_isi_tuple (Txt.b_isinstance (by assumption)) (Txt.b_tuple (by assumption)) ?_
  | refine pw_isi_list (Txt.b_isinstance (by assumption)) (Txt.b_list (by assumption)) ?_
  | refine pw_tuple (Txt.b_tuple (by assumption)) ?_
  | refine pw_any rfl (Txt.b_any (by assumption)) ?_
  | refine pw_all rfl (Txt.b_all (by assumption)) ?_
  | refine pw_sum rfl (Txt.b_sum (by assumption)) ?_
  | refine pw_min2 rfl (Txt.b_min (by assumption)) ?_
  | refine pw_max2 rfl (Txt.b_max (by assumption)) ?_
  | refine pw_toInt (Txt.b_int (by assumption)) ?_
  | refine pw_call (by assumption) (by assumption) (by decide) rfl ?_
  )
local macro_rules | `(tactic| walk_at "wb") => `(tactic| first
  | refine pw_add ?_
  | refine pw_sub ?_
  | refine pw_mul ?_
  | refine pw_fdiv ?_
  | refine pw_mod ?_
  )
local macro_rules | `(tactic| walk_at "wt") => `(tactic| first
  | (refine gTcmp ?_; walk_at "wd")
  | refine pwt_w ?_
  | refine pwt_not ?_
  | refine pwt_tru (fun _ => rfl) ?_
  )
local macro_rules | `(tactic| walk_at "wd") => `(tactic| first
  | refine pwt_eq ?_
  | refine pwt_ne ?_
  | refine pwt_lt ?_
  | refine pwt_le ?_
  | refine pwt_gt ?_
  | refine pwt_ge ?_
  | refine pwt_inG (Txt.c_TWO_NOUNS (by assumption)) rfl ?_
  | refine pwt_inG (Txt.c_QUANTITIES (by assumption)) rfl ?_
  | refine pwt_in rfl ?_
  )
local macro_rules | `(tactic| walk_at "wl") => `(tactic| first
  | refine br_t rfl ?_
  | refine br_f rfl ?_
  | refine rb_t rfl ?_
  | refine rb_f rfl ?_
  | refine ⟨_, rfl, ?_⟩
  | refine ⟨_, _, rfl, rfl, ?_⟩
  | refine ⟨_, _, rfl, ?_⟩
  | refine ⟨rfl, ?_⟩
  | refine ⟨_, _, _, rfl, rfl, rfl, ?_⟩
  | refine ⟨le_line (Nat.le_of_ble_eq_true rfl), ?_⟩
  | refine ⟨_, _, _, rfl, rfl, ?_⟩
  | exact rfl
  )
local macro_rules | `(tactic| walk_at "w1") => `(tactic| first
  | (refine gE ?_; walk_at "we")
  | (refine gT ?_; walk_at "wt")
  | (refine gA ?_; first | refine pwa_cons ?_ | refine pwa_nil ?_)
  | (refine gW ?_; first | refine pww_and ?_ | refine pww_or ?_ | refine pww_and1 ?_ | refine pww_or1 ?_)
  | (refine gS ?_; walk_at "nf"; first | refine sd_ret ?_ | refine sd_if ?_ | refine sd_newLN (by assumption) rfl (by walk_at "v") (Nat.le_of_ble_eq_true rfl) ?_ | refine sd_setN (by assumption) rfl (by walk_at "v") ?_ | refine sd_appendN rfl rfl (by walk_at "v") ?_ | refine sd_nil ?_)
  | (refine gP ?_; first | refine pwp_none ?_ | refine pwp_some ?_)
  | (refine gG ?_; refine pwg_tup rfl rfl ?_)
  | (refine gGs ?_; first | refine pwgs_cons ?_ | refine pwgs_nil ?_)
  | walk_at "wl"
  )
local macro_rules | `(tactic| walk_at "w") => `(tactic| repeat walk_at "w1")

section
variable {P : Program} {w : World} {K : PySem.W.Frag} {mg : Str → Option Value} {base : Heap}
def R_table_of : List D → D → Prop := fun ds r => ∃ (n m : Nat) (ps : List Sen), ds = [sigD n m, sensD ps] ∧ Prem n m ps ∧ r = .tup [.tab (tableOf n ps).1, .tab (tableOf n ps).2]
theorem noDicts_prD (l : Tab) : noDicts (l.map prD) = true := by
  induction l with
  | nil => rfl
  | cons a r ih => rw [List.map_cons]; simp [noDicts, noDict, prD, ih]
theorem putT_eq {l : Tab} {k : Int × Int} : putT l k = put l k := by unfold putT put; by_cases h : k ∈ l <;> simp [h]
theorem take_foldl {α β : Type} {f : β → α → β} {l : List α} {i : Nat} {x : α} {b : β} (h : l[i]? = some x) : (l.take (i + 1)).foldl f b = f ((l.take i).foldl f b) x := by
  rw [List.take_add_one, h, List.foldl_append]; rfl
def tCell (n m : Nat) (ps : List Sen) (s t : Tab) (c4 c5 c6 c7 c8 : Cell) : List Cell := [.im (sigD n m), .im (sensD ps), .ow (.tab s), .ow (.tab t), c4, c5, c6, c7, c8, .un]
local macro_rules | `(tactic| walk_at "nf") => `(tactic| first | refine nfS (δ' := [_, _, _, _, _, _, _, _, _, _]) rfl ?_ | refine nfE (δ' := [_, _, _, _, _, _, _, _, _, _]) rfl ?_ | refine nfT (δ' := [_, _, _, _, _, _, _, _, _, _]) rfl ?_ | refine nfTs (δ' := [_, _, _, _, _, _, _, _, _, _]) rfl ?_ | refine nfI (δ' := [_, _, _, _, _, _, _, _, _, _]) rfl ?_ | refine nfG (δ' := [_, _, _, _, _, _, _, _, _, _]) rfl ?_ | refine nfX (δ' := [_, _, _, _, _, _, _, _, _, _]) rfl ?_ | refine nfXO (δ' := [_, _, _, _, _, _, _, _, _, _]) rfl ?_)
theorem fn_table_of (T : Txt K mg) : FnP P w K mg base "table_of" 2 R_table_of := by
  have F1 : FnP P w K mg base "steps_of_table" 1 R_steps := fn_steps T
  refine fn_pure T.d_table_of sc_table_of (fun _ _ _ _ _ _ us hl => match us, hl with | [_, _], _ => rfl) (fun ds r ⟨_, _, _, h, _⟩ => by rw [h]; rfl) ?_
  rintro ds r ⟨n, m, ps, rfl, ok, rfl⟩ f cdv A outer s H E hr
  have nd := sc_table_of.nd
  obtain ⟨⟨hn1, hn2, hm2⟩, hp8, hok⟩ := ok
  have small : ∀ t : Tab, TabOk n t → t.length ≤ 16 := fun t h => Nat.le_trans h.len (by
    have : n = 1 ∨ n = 2 ∨ n = 3 ∨ n = 4 := by omega
    rcases this with h | h | h | h <;> subst h <;> decide)
  walk_at "nf"
  refine sd_setXT (j := 2) (show 2 < 10 by decide) (ps_dtT (i := 2) (own := [("x", 9)]) (hu_of hr) rfl nd (blk_of sc_table_of rfl rfl (by decide +kernel)) rfl rfl rfl (fun _ => rfl)) ?_
  refine dtx ?_
  refine pwi_range1 T.b_range ?_
  walk_at "w"
  refine ⟨by omega, by omega, Int, rgI n, D.int, fun x => (x, x), [9], ?_, by decide, (sub0_ok n).nd, ?_, ?_⟩
  · unfold rgD rgI
    rw [List.map_map]
    show (List.range n).map _ = (List.range n).map _
    apply List.map_congr_left
    intro i _
    simp
  · intro x hx _ _ _ _ _
    refine pwg_nm nd rfl (by walk_at "v") ?_
    intro _ _ _ _ _; walk_at "nf"
    walk_at "w"
    intro _ _ _ _ _; walk_at "nf"
    walk_at "w"
  · show Sd _ _ (List.set _ 2 (.ow (.tab (sub0 n)))) _ _
    walk_at "nf"
    refine sd_newTN nd rfl (by walk_at "v") (Nat.le_of_ble_eq_true rfl) ?_
    walk_at "nf"
    refine sd_for (is := [4]) PassesOwn.never rfl (pwi_tup ?_)
    walk_at "w"
    refine ⟨Sen, ps, senD, fun i δ' => ∃ c4, δ' = tCell n m ps ((ps.take i).foldl subPut (sub0 n)) ((ps.take i).foldl mostPut []) c4 .un .un .un .un, rfl, ⟨.un, rfl⟩, ?_, ?_⟩
    · rintro i x δ' hx ⟨c4, rfl⟩
      have hxo := hok x (List.mem_of_getElem? hx)
      have hs := subs_ok (ps := ps.take i) (sub0_ok n) fun y hy => hok y (List.mem_of_mem_take hy)
      have hm := mosts_ok (ps := ps.take i) (nil_ok n) fun y hy => hok y (List.mem_of_mem_take hy)
      have zs := small _ hs
      have zm := small _ hm
      dsimp only
      rw [take_foldl hx, take_foldl hx]
      generalize (ps.take i).foldl subPut (sub0 n) = s0 at *
      generalize (ps.take i).foldl mostPut [] = m0 at *
      refine pwg_nm nd rfl (by walk_at "v") ?_
      cases x with
      | all x y =>
        walk_at "w"
        refine sd_putTN (hu_of hr) rfl rfl (by walk_at "v") (Nat.lt_of_le_of_lt zs (by decide)) ?_
        walk_at "w"
        exact ⟨.im (senD (.all x y)), by rw [putT_eq]; rfl⟩
      | many x y =>
        walk_at "w"
        refine sd_putTN (hu_of hr) rfl rfl (by walk_at "v") (Nat.lt_of_le_of_lt zm (by decide)) ?_
        walk_at "w"
        exact ⟨.im (senD (.many x y)), by rw [putT_eq]; rfl⟩
      | fewer x y =>
        walk_at "w"
        refine sd_putTN (hu_of hr) rfl rfl (by walk_at "v") (Nat.lt_of_le_of_lt zm (by decide)) ?_
        walk_at "w"
        exact ⟨.im (senD (.fewer x y)), by rw [putT_eq]; rfl⟩
      | _ =>
        walk_at "w"
        exact ⟨_, rfl⟩
    · rintro δ' ⟨c4, rfl⟩
      rw [List.take_length]
      have hs := subs_ok (ps := ps) (sub0_ok n) hok
      have hm := mosts_ok (ps := ps) (nil_ok n) hok
      have eT : tableOf n ps = tfix (2 * n * n + 1) (ps.foldl subPut (sub0 n)) (ps.foldl mostPut []) := rfl
      generalize ps.foldl subPut (sub0 n) = s0 at *
      generalize ps.foldl mostPut [] = m0 at *
      walk_at "w"
      refine sd_while (fun k δ' => ∃ (s t : Tab) (b : Int) (c4 c6 c7 c8 : Cell), δ' = tCell n m ps s t c4 (.im (.int b)) c6 c7 c8 ∧ TabOk n s ∧ TabOk n t ∧ (b < ((s.length + t.length : Nat) : Int) → ∃ f, k = f ∧ 2 * (n * n) + 1 ≤ f + (s.length + t.length) ∧ tfix f s t = tableOf n ps) ∧ (¬ b < ((s.length + t.length : Nat) : Int) → (s, t) = tableOf n ps))
        (n0 := 2 * n * n + 1) PassesOwn.never ⟨s0, m0, -1, c4, .un, .un, .un, rfl, hs, hm, fun _ => ⟨_, rfl, by rw [Nat.mul_assoc]; omega, eT.symm⟩, fun h => absurd (show (-1 : Int) < _ by omega) h⟩ ?_
      rintro k δ' ⟨s1, t1, b, c4, c6, c7, c8, rfl, hs1, ht1, hyes, hno⟩
      unfold tCell
      refine pwt_gt (pw_add (pw_lenO 2 T.b_len rfl (by walk_at "v") rfl rfl (pw_lenO 3 T.b_len rfl (by walk_at "v") rfl rfl ?_)))
      walk_at "w"
      refine ⟨fun hb => ?_, fun hb => ?_⟩
      · have hb1 := of_decide_eq_true hb
        obtain ⟨_, rfl, hf, ef⟩ := hyes (by omega)
        have l1 := hs1.len
        have l2 := ht1.len
        obtain ⟨g, rfl⟩ : ∃ g, k = g + 1 := ⟨k - 1, by omega⟩
        have hm' := more_rg (m := t1) hs1
        have hn' := many_rg hs1 ht1
        refine sd_setN nd rfl (by walk_at "v") (pw_add (pw_lenO 2 T.b_len rfl (by walk_at "v") rfl rfl (pw_lenO 3 T.b_len rfl (by walk_at "v") rfl rfl ?_)))
        refine ⟨_, _, rfl, rfl, ?_⟩
        walk_at "nf"
        refine sd_asg (is := [6, 7]) ?_
        refine pw_borrow 2 rfl rfl (pw_borrow 3 rfl rfl ?_)
        walk_at "w"
        refine ⟨_, ⟨s1, t1, rfl, ⟨small _ hs1, small _ ht1⟩, rfl⟩, ?_⟩
        have nod : noDict (.tup [.lst ((moreOf s1 t1).map prD), .lst ((manyOf s1 t1).map prD)]) = true := by simp [noDict, noDicts, noDicts_prD]
        refine ⟨nod, nod, ?_⟩
        refine pwg_pair nd rfl rfl rfl (by walk_at "v") (by walk_at "v") ?_
        walk_at "nf"
        refine sd_for (is := [8]) PassesOwn.never rfl (pwi_list ?_)
        walk_at "w"
        refine ⟨Int × Int, moreOf s1 t1, prD, fun i δ' => ∃ c8, δ' = [.im (sigD n m), .im (sensD ps), .ow (.tab (((moreOf s1 t1).take i).foldl put s1)), .ow (.tab t1), c4, .im (.int ((s1.length : Int) + (t1.length : Int))), .im (.lst ((moreOf s1 t1).map prD)), .im (.lst ((manyOf s1 t1).map prD)), c8, .un], rfl, ⟨_, rfl⟩, ?_, ?_⟩
        · rintro i x δ' hx ⟨c8, rfl⟩
          dsimp only
          rw [take_foldl hx]
          have z := small _ (hs1.puts (ks := (moreOf s1 t1).take i) fun p hp => hm' p (List.mem_of_mem_take hp))
          generalize ((moreOf s1 t1).take i).foldl put s1 = s2 at *
          refine pwg_nm nd rfl (by walk_at "v") ?_
          walk_at "nf"
          refine sd_putTN (hu_of hr) rfl rfl (by walk_at "v") (Nat.lt_of_le_of_lt z (by decide)) ?_
          walk_at "w"
          exact ⟨.im (prD x), by rw [putT_eq]⟩
        · rintro δ' ⟨c8, rfl⟩
          rw [List.take_length]
          refine sd_for (is := [8]) PassesOwn.never rfl (pwi_list ?_)
          walk_at "w"
          refine ⟨Int × Int, manyOf s1 t1, prD, fun i δ' => ∃ c8, δ' = [.im (sigD n m), .im (sensD ps), .ow (.tab ((moreOf s1 t1).foldl put s1)), .ow (.tab (((manyOf s1 t1).take i).foldl put t1)), c4, .im (.int ((s1.length : Int) + (t1.length : Int))), .im (.lst ((moreOf s1 t1).map prD)), .im (.lst ((manyOf s1 t1).map prD)), c8, .un], rfl, ⟨_, rfl⟩, ?_, ?_⟩
          · rintro i x δ' hx ⟨c8, rfl⟩
            dsimp only
            rw [take_foldl hx]
            have z := small _ (ht1.puts (ks := (manyOf s1 t1).take i) fun p hp => hn' p (List.mem_of_mem_take hp))
            generalize ((manyOf s1 t1).take i).foldl put t1 = t2 at *
            refine pwg_nm nd rfl (by walk_at "v") ?_
            walk_at "nf"
            refine sd_putTN (hu_of hr) rfl rfl (by walk_at "v") (Nat.lt_of_le_of_lt z (by decide)) ?_
            walk_at "w"
            exact ⟨.im (prD x), by rw [putT_eq]⟩
          · rintro δ' ⟨c8', rfl⟩
            rw [List.take_length]
            refine sd_nil ?_
            have hle := tstep_le (s := s1) (m := t1)
            have hok2 := tstep_ok hs1 ht1
            by_cases hg : (tstep s1 t1).1.length + (tstep s1 t1).2.length > s1.length + t1.length
            · refine ⟨g, by omega, _, _, _, _, _, _, _, rfl, hok2.1, hok2.2, fun _ => ⟨g, rfl, ?_, ?_⟩, fun h => absurd ?_ h⟩
              · show _ ≤ g + ((tstep s1 t1).1.length + (tstep s1 t1).2.length)
                omega
              · rw [← ef]
                show _ = tfix (g + 1) s1 t1
                rw [tfix, if_pos hg]; rfl
              · show _ < (((tstep s1 t1).1.length + (tstep s1 t1).2.length : Nat) : Int)
                omega
            · refine ⟨0, by omega, _, _, _, _, _, _, _, rfl, hok2.1, hok2.2, fun h => absurd h ?_, fun _ => ?_⟩
              · show ¬ _ < (((tstep s1 t1).1.length + (tstep s1 t1).2.length : Nat) : Int)
                omega
              · rw [← ef]
                show _ = tfix (g + 1) s1 t1
                rw [tfix, if_neg hg]; rfl
      · have hb1 := of_decide_eq_false hb
        have e := hno (by omega)
        refine sd_freeze 2 rfl rfl (sd_freeze 3 rfl rfl ?_)
        walk_at "w"
        rw [← e]
end
end AL
namespace AL
open PySem PySem.Spec PyProof.Rows L2 Mi
local macro_rules | `(tactic| walk_at "v") => `(tactic| first | exact Or.inl rfl | exact Or.inr rfl | exact Or.inr (Or.inl rfl) | exact Or.inr (Or.inr rfl))
local macro_rules | `(tactic| walk_at "we") => `(tactic| first
  | refine pw_nm rfl (by walk_at "v") rfl ?_
  | refine pw_int ?_
  | refine pw_str ?_
  | refine pw_bl ?_
  | (refine gEcmp ?_; walk_at "wc")
  | refine pw_ix ?_
  | (refine gEcall ?_; walk_at "wf")
  | refine pw_tup ?_
  | refine AL.pw_and ?_
  | refine AL.pw_or ?_
  | refine AL.pw_one ?_
  | refine AL.pw_not ?_
  | (refine gEbin ?_; walk_at "wb")
  | refine pw_slice ?_
  | refine pw_lst ?_
  | refine pw_ife ?_
  | refine pw_neg ?_
  | refine pw_non ?_
  | refine pw_gint rfl (Txt.c_MOST_NOUNS (by assumption)) ?_
  | refine pw_gint rfl (Txt.c_MOST_VERBS (by assumption)) ?_
  | refine pw_gint rfl (Txt.c_MOST_PREMISES (by assumption)) ?_
  | refine pw_gint rfl (Txt.c_MOST_SPEAKER (by assumption)) ?_
  | refine pw_gint rfl (Txt.c_MOST_ASSERTIONS (by assumption)) ?_
  | refine pw_gint rfl (Txt.c_MOST_COMMANDS (by assumption)) ?_
  )
local macro_rules | `(tactic| walk_at "wc") => `(tactic| first
  | refine pw_eqS (by assumption) ?_
  | refine pw_eq ?_
  | refine pw_ne ?_
  | refine pw_chainLe ?_
  | refine pw_lt ?_
  | refine pw_le ?_
  | refine pw_gt ?_
  | refine pw_ge ?_
  | refine pw_inG (Txt.c_TWO_NOUNS (by assumption)) rfl ?_
  | refine pw_inG (Txt.c_QUANTITIES (by assumption)) rfl ?_
  )
local macro_rules | `(tactic| walk_at "wf") => `(tactic| first
  | refine pw_len (Txt.b_len (by assumption)) ?_
  | refine pw_isi_int (Txt.b_isinstance (by assumption)) (Txt.b_int (by assumption)) ?_
  | refine pw_isi_bool (Txt.b_isinstance (by assumption)) (Txt.b_bool (by assumption)) ?_
  | refine pw_isi_str (Txt.b_isinstance (by assumption)) (Txt.b_str (by assumption)) ?_
  | refine pw_isi_tuple (Txt.b_isinstance (by assumption)) (Txt.b_tuple (by assumption)) ?_
  | refine pw_isi_list (Txt.b_isinstance (by assumption)) (Txt.b_list (by assumption)) ?_
  | refine pw_tuple (Txt.b_tuple (by assumption)) ?_
  | refine pw_any rfl (Txt.b_any (by assumption)) ?_
  | refine pw_all rfl (Txt.b_all (by assumption)) ?_
  | refine pw_sum rfl (Txt.b_sum (by assumption)) ?_
  | refine pw_min2 rfl (Txt.b_min (by assumption)) ?_
  | refine pw_max2 rfl (Txt.b_max (by assumption)) ?_
  | refine pw_toInt (Txt.b_int (by assumption)) ?_
  | refine pw_call (by assumption) (by assumption) (by decide) rfl ?_
  )
local macro_rules | `(tactic| walk_at "wb") => `(tactic| first
  | refine pw_add ?_
  | refine pw_sub ?_
  | refine pw_mul ?_
  | refine pw_fdiv ?_
  | refine pw_mod ?_
  )
local macro_rules | `(tactic| walk_at "wt") => `(tactic| first
  | (refine gTcmp ?_; walk_at "wd")
  | refine pwt_w ?_
  | refine pwt_not ?_
  | refine pwt_tru (fun _ => rfl) ?_
  )
local macro_rules | `(tactic| walk_at "wd") => `(tactic| first
  | refine pwt_eqS (by assumption) ?_
  | refine pwt_eq ?_
  | refine pwt_ne ?_
  | refine pwt_lt ?_
  | refine pwt_le ?_
  | refine pwt_gt ?_
  | refine pwt_ge ?_
  | refine pwt_inG (Txt.c_TWO_NOUNS (by assumption)) rfl ?_
  | refine pwt_inG (Txt.c_QUANTITIES (by assumption)) rfl ?_
  | refine pwt_inTup ?_
  | refine pwt_inLst ?_
  )
local macro_rules | `(tactic| walk_at "wl") => `(tactic| first
  | refine br_t rfl ?_
  | refine br_f rfl ?_
  | refine rb_t rfl ?_
  | refine rb_f rfl ?_
  | refine ⟨_, rfl, ?_⟩
  | refine ⟨_, _, rfl, rfl, ?_⟩
  | refine ⟨_, _, rfl, ?_⟩
  | refine ⟨rfl, ?_⟩
  | refine ⟨dp_ok _ rfl rfl, ?_⟩
  | refine ⟨_, _, _, rfl, rfl, rfl, ?_⟩
  | refine ⟨le_line (Nat.le_of_ble_eq_true rfl), ?_⟩
  | refine ⟨_, _, _, rfl, rfl, ?_⟩
  | exact rfl
  )
local macro_rules | `(tactic| walk_at "w1") => `(tactic| first
  | (refine gE ?_; walk_at "we")
  | (refine gT ?_; walk_at "wt")
  | (refine gA ?_; first | refine pwa_cons ?_ | refine pwa_nil ?_)
  | (refine gW ?_; first | refine pww_and ?_ | refine pww_or ?_ | refine pww_and1 ?_ | refine pww_or1 ?_)
  | (refine gS ?_; walk_at "nf"; first | refine sd_ret ?_ | refine sd_if ?_ | refine sd_newLN (by assumption) rfl (by walk_at "v") (Nat.le_of_ble_eq_true rfl) ?_ | refine sd_setN (by assumption) rfl (by walk_at "v") ?_ | refine sd_appendN rfl rfl (by walk_at "v") ?_ | refine sd_nil ?_)
  | (refine gP ?_; first | refine pwp_none ?_ | refine pwp_some ?_)
  | walk_at "wl"
  )
local macro_rules | `(tactic| walk_at "w") => `(tactic| repeat walk_at "w1")

section
variable {P : Program} {w : World} {K : PySem.W.Frag} {mg : Str → Option Value} {base : Heap}
def R_stated_by : List D → D → Prop := fun ds r => ∃ x : Sen, ds = [senD x] ∧ r = .lst ((stated x).map kindD)
local macro_rules | `(tactic| walk_at "nf") => `(tactic| first | refine nfS (δ' := [_, _]) rfl ?_ | refine nfE (δ' := [_, _]) rfl ?_ | refine nfT (δ' := [_, _]) rfl ?_ | refine nfTs (δ' := [_, _]) rfl ?_ | refine nfI (δ' := [_, _]) rfl ?_ | refine nfG (δ' := [_, _]) rfl ?_ | refine nfX (δ' := [_, _]) rfl ?_ | refine nfXO (δ' := [_, _]) rfl ?_)
theorem fn_stated_by (T : Txt K mg) : FnP P w K mg base "stated_by" 1 R_stated_by := by
  refine fn_pure T.d_stated_by sc_stated_by (fun _ _ _ _ _ _ us hl => match us, hl with | [_], _ => rfl) (fun ds r ⟨_, h, _⟩ => by rw [h]; rfl) ?_
  rintro ds r ⟨x, rfl, rfl⟩ f cdv A outer s H E hr
  have nd := sc_stated_by.nd
  cases x with
  | some x y =>
    walk_at "w"
    refine ⟨fun h => ?_, fun h => ?_⟩
    · have hxy : x ≠ y := by simpa using h
      walk_at "w"
      simp [stated, hxy, kindD]
    · have hxy : x = y := by simpa using h
      subst hxy
      walk_at "w"
      simp [stated, kindD]
  | verb q x d v b p y =>
    cases q <;> cases p <;> walk_at "w"
  | self q x d v =>
    cases q <;> walk_at "w"
  | _ x y => walk_at "w"
def R_nouns_of : List D → D → Prop := fun ds r => ∃ k : Kd, ds = [kindD k] ∧ r = .tup ((nounsOf k).map .int)
local macro_rules | `(tactic| walk_at "nf") => `(tactic| first | refine nfS (δ' := [_]) rfl ?_ | refine nfE (δ' := [_]) rfl ?_ | refine nfT (δ' := [_]) rfl ?_ | refine nfTs (δ' := [_]) rfl ?_ | refine nfI (δ' := [_]) rfl ?_ | refine nfG (δ' := [_]) rfl ?_ | refine nfX (δ' := [_]) rfl ?_ | refine nfXO (δ' := [_]) rfl ?_)
theorem fn_nouns_of (T : Txt K mg) : FnP P w K mg base "nouns_of" 1 R_nouns_of := by
  refine fn_pure T.d_nouns_of sc_nouns_of (fun _ _ _ _ _ _ us hl => match us, hl with | [_], _ => rfl) (fun ds r ⟨_, h, _⟩ => by rw [h]; rfl) ?_
  rintro ds r ⟨k, rfl, rfl⟩ f cdv A outer s H E hr
  cases k <;> walk_at "w"
def R_above : List D → D → Prop := fun ds r => ∃ (n m : Nat) (s : Tab) (k : Kd), ds = [.tab s, kindD k, sigD n m] ∧ n ≤ 4 ∧ r = intsD (above s k n)
local macro_rules | `(tactic| walk_at "nf") => `(tactic| first | refine nfS (δ' := [_, _, _, _, _]) rfl ?_ | refine nfE (δ' := [_, _, _, _, _]) rfl ?_ | refine nfT (δ' := [_, _, _, _, _]) rfl ?_ | refine nfTs (δ' := [_, _, _, _, _]) rfl ?_ | refine nfI (δ' := [_, _, _, _, _]) rfl ?_ | refine nfG (δ' := [_, _, _, _, _]) rfl ?_ | refine nfX (δ' := [_, _, _, _, _]) rfl ?_ | refine nfXO (δ' := [_, _, _, _, _]) rfl ?_)
theorem fn_above (T : Txt K mg) : FnP P w K mg base "above" 2 R_above := by
  have F1 : FnP P w K mg base "nouns_of" 1 R_nouns_of := fn_nouns_of T
  refine fn_pure T.d_above sc_above (fun _ _ _ _ _ _ us hl => match us, hl with | [_, _, _], _ => rfl) (fun ds r ⟨_, _, _, _, h, _⟩ => by rw [h]; rfl) ?_
  rintro ds r ⟨n, m, s, k, rfl, hn, rfl⟩ f cdv A outer s0 H E hr
  have nd := sc_above.nd
  walk_at "w"
  refine pw_lc (own := [("noun", 3)]) rfl nd (blk_of sc_above rfl rfl (by decide +kernel)) (pwi_range1 T.b_range ?_)
  walk_at "w"
  refine ⟨by omega, by omega, Int, rgI n, D.int, fun z => if ((nounsOf k).any fun o => has s o z) = true then some (D.int z) else none, [3], rgD0 n, by decide, ?_, ?_⟩
  · intro z hz _ _ _ _ _
    refine pwg_nm nd rfl (by walk_at "v") ?_
    intro _ _ _ _ _; walk_at "nf"
    refine pwts_one ?_
    refine pwt_val (fun _ => rfl) ?_
    walk_at "w"
    refine pw_lcM (own := [("own", 4)]) rfl nd (blk_in sc_above rfl (by decide +kernel)) (pwi_tup ?_)
    walk_at "w"
    refine ⟨_, ⟨k, rfl, rfl⟩, ?_⟩
    refine ⟨_, rfl, Int, nounsOf k, D.int, fun o => .bl (has s o z), [4], rfl, by decide, ?_, ?_⟩
    · intro o ho _ _ _ _ _
      refine pwg_nm nd rfl (by walk_at "v") ?_
      intro _ _ _ _ _; walk_at "nf"
      refine pw_inT (hu_of hr) ?_
      walk_at "w"
    · walk_at "w"
      refine ⟨_, mm, _, rfl, ?_⟩
      rw [List.any_map]
      refine ⟨fun h => ift h, fun h => ?_⟩
      intro _ _ _ _ _; walk_at "nf"
      walk_at "w"
      exact ift' h
  · walk_at "w"
    rw [fm_filter]
    rfl
end
end AL
namespace AL
open PySem PySem.Spec PyProof.Rows L2 Mi
local macro_rules | `(tactic| walk_at "v") => `(tactic| first | exact Or.inl rfl | exact Or.inr rfl | exact Or.inr (Or.inl rfl) | exact Or.inr (Or.inr rfl))
local macro_rules | `(tactic| walk_at "we") => `(tactic| first
  | refine pw_nm rfl (by walk_at "v") rfl ?_
  | refine pw_int ?_
  | refine pw_str ?_
  | refine pw_bl ?_
  | (refine gEcmp ?_; walk_at "wc")
  | refine pw_ix ?_
  | (refine gEcall ?_; walk_at "wf")
  | refine pw_tup ?_
  | refine AL.pw_and ?_
  | refine AL.pw_or ?_
  | refine AL.pw_one ?_
  | refine AL.pw_not ?_
  | (refine gEbin ?_; walk_at "wb")
  | refine pw_slice ?_
  | refine pw_lst ?_
  | refine pw_ife ?_
  | refine pw_neg ?_
  | refine pw_non ?_
  | refine pw_gint rfl (Txt.c_MOST_NOUNS (by assumption)) ?_
  | refine pw_gint rfl (Txt.c_MOST_VERBS (by assumption)) ?_
  | refine pw_gint rfl (Txt.c_MOST_PREMISES (by assumption)) ?_
  | refine pw_gint rfl (Txt.c_MOST_SPEAKER (by assumption)) ?_
  | refine pw_gint rfl (Txt.c_MOST_ASSERTIONS (by assumption)) ?_
  | refine pw_gint rfl (Txt.c_MOST_COMMANDS (by assumption)) ?_
  )
local macro_rules | `(tactic| walk_at "wc") => `(tactic| first
  | refine pw_eqS (by assumption) ?_
  | refine pw_eq ?_
  | refine pw_ne ?_
  | refine pw_chainLe ?_
  | refine pw_lt ?_
  | refine pw_le ?_
  | refine pw_gt ?_
  | refine pw_ge ?_
  | refine pw_inG (Txt.c_TWO_NOUNS (by assumption)) rfl ?_
  | refine pw_inG (Txt.c_QUANTITIES (by assumption)) rfl ?_
  )
local macro_rules | `(tactic| walk_at "wf") => `(tactic| first
  | refine pw_len (Txt.b_len (by assumption)) ?_
  | refine pw_isi_int (Txt.b_isinstance (by assumption)) (Txt.b_int (by assumption)) ?_
  | refine pw_isi_bool (Txt.b_isinstance (by assumption)) (Txt.b_bool (by assumption)) ?_
  | refine pw_isi_str (Txt.b_isinstance (by assumption)) (Txt.b_str (by assumption)) ?_
  | refine pw_isi_tuple (Txt.b_isinstance (by assumption)) (Txt.b_tuple (by assumption)) ?_
  | refine pw_isi_list (Txt.b_isinstance (by assumption)) (Txt.b_list (by assumption)) ?_
  | refine pw_tuple (Txt.b_tuple (by assumption)) ?_
  | refine pw_any rfl (Txt.b_any (by assumption)) ?_
  | refine pw_all rfl (Txt.b_all (by assumption)) ?_
  | refine pw_sum rfl (Txt.b_sum (by assumption)) ?_
  | refine pw_min2 rfl (Txt.b_min (by assumption)) ?_
  | refine pw_max2 rfl (Txt.b_max (by assumption)) ?_
  | refine pw_toInt (Txt.b_int (by assumption)) ?_
  | refine pw_call (by assumption) (by assumption) (by decide) rfl ?_
  )
local macro_rules | `(tactic| walk_at "wb") => `(tactic| first
  | refine pw_add ?_
  | refine pw_sub ?_
  | refine pw_mul ?_
  | refine pw_fdiv ?_
  | refine pw_mod ?_
  )
local macro_rules | `(tactic| walk_at "wt") => `(tactic| first
  | (refine gTcmp ?_; walk_at "wd")
  | refine pwt_w ?_
  | refine pwt_not ?_
  | refine pwt_tru (fun _ => rfl) ?_
  )
local macro_rules | `(tactic| walk_at "wd") => `(tactic| first
  | refine pwt_eqS (by assumption) ?_
  | refine pwt_eq ?_
  | refine pwt_ne ?_
  | refine pwt_lt ?_
  | refine pwt_le ?_
  | refine pwt_gt ?_
  | refine pwt_ge ?_
  | refine pwt_inG (Txt.c_TWO_NOUNS (by assumption)) rfl ?_
  | refine pwt_inG (Txt.c_QUANTITIES (by assumption)) rfl ?_
  | refine pwt_inTup ?_
  | refine pwt_inLst ?_
  )
local macro_rules | `(tactic| walk_at "wl") => `(tactic| first
  | refine br_t rfl ?_
  | refine br_f rfl ?_
  | refine rb_t rfl ?_
  | refine rb_f rfl ?_
  | refine ⟨_, rfl, ?_⟩
  | refine ⟨_, _, rfl, rfl, ?_⟩
  | refine ⟨_, _, rfl, ?_⟩
  | refine ⟨rfl, ?_⟩
  | refine ⟨dp_ok _ rfl rfl, ?_⟩
  | refine ⟨_, _, _, rfl, rfl, rfl, ?_⟩
  | refine ⟨le_line (Nat.le_of_ble_eq_true rfl), ?_⟩
  | refine ⟨_, _, _, rfl, rfl, ?_⟩
  | exact rfl
  )
local macro_rules | `(tactic| walk_at "w1") => `(tactic| first
  | (refine gE ?_; walk_at "we")
  | (refine gT ?_; walk_at "wt")
  | (refine gA ?_; first | refine pwa_cons ?_ | refine pwa_nil ?_)
  | (refine gW ?_; first | refine pww_and ?_ | refine pww_or ?_ | refine pww_and1 ?_ | refine pww_or1 ?_)
  | (refine gS ?_; walk_at "nf"; first | refine sd_ret ?_ | refine sd_if ?_ | refine sd_newLN (by assumption) rfl (by walk_at "v") (Nat.le_of_ble_eq_true rfl) ?_ | refine sd_setN (by assumption) rfl (by walk_at "v") ?_ | refine sd_appendN rfl rfl (by walk_at "v") ?_ | refine sd_nil ?_)
  | (refine gP ?_; first | refine pwp_none ?_ | refine pwp_some ?_)
  | walk_at "wl"
  )
local macro_rules | `(tactic| walk_at "w") => `(tactic| repeat walk_at "w1")

section
variable {P : Program} {w : World} {K : PySem.W.Frag} {mg : Str → Option Value} {base : Heap}
def kItems : Kd → List D
  | .one x => [.str "one", .int x]
  | .both x y => [.str "both", .int x, .int y]
  | .mark x d v b y => [.str "mark", .int x, .bl d, .int v, .bl b, .int y]
  | .self x d v => [.str "self", .int x, .bl d, .int v]
theorem kindD_items (k : Kd) : kindD k = .tup (kItems k) := by cases k <;> rfl
theorem bl_num {a b : Bool} (h : (if a then (1 : Int) else 0) = if b then 1 else 0) : a = b := by cases a <;> cases b <;> simp_all
theorem kItems_inj {k k' : Kd} (h : (kItems k).map leafD = (kItems k').map leafD) : k = k' := by
  cases k <;> cases k' <;> simp only [kItems, List.map_cons, List.map_nil, leafD, List.cons.injEq, Leaf.text.injEq, Leaf.num.injEq, reduceCtorEq, and_true, and_false, false_and, true_and] at h
  all_goals first
    | exact absurd h (by decide)
    | exact absurd h.1 (by decide)
    | skip
  all_goals first
    | (rw [h])
    | (obtain ⟨h1, h2⟩ := h; rw [h1, h2])
    | (obtain ⟨h1, h2, h3⟩ := h; rw [h1, bl_num h2, h3])
    | (obtain ⟨h1, h2, h3, h4, h5⟩ := h; rw [h1, bl_num h2, h3, bl_num h4, h5])
theorem putX_eq (l : List Kd) (k : Kd) : putX (l.map kItems) (kItems k) = (put l k).map kItems := by
  unfold putX put
  have e : (kItems k).map leafD ∈ (l.map kItems).map (·.map leafD) ↔ k ∈ l := by
    rw [List.map_map, List.mem_map]
    exact ⟨fun ⟨k', h1, h2⟩ => by rw [← kItems_inj (k := k') (k' := k) h2]; exact h1, fun h => ⟨k, h, rfl⟩⟩
  by_cases h : k ∈ l
  · rw [if_pos (e.mpr h), if_pos h]
  · rw [if_neg (fun z => h (e.mp z)), if_neg h, List.map_append]; rfl
theorem kItems_flat (k : Kd) : (kItems k).all flatD = true := by cases k <;> rfl
def R_stated_kinds : List D → D → Prop := fun ds r => ∃ ps : List Sen, ds = [sensD ps] ∧ ps.length ≤ 8 ∧ r = .lst ((statedKinds ps).map kindD)
local macro_rules | `(tactic| walk_at "nf") => `(tactic| first | refine nfS (δ' := [_, _, _, _]) rfl ?_ | refine nfE (δ' := [_, _, _, _]) rfl ?_ | refine nfT (δ' := [_, _, _, _]) rfl ?_ | refine nfTs (δ' := [_, _, _, _]) rfl ?_ | refine nfI (δ' := [_, _, _, _]) rfl ?_ | refine nfG (δ' := [_, _, _, _]) rfl ?_ | refine nfX (δ' := [_, _, _, _]) rfl ?_ | refine nfXO (δ' := [_, _, _, _]) rfl ?_)
theorem fn_stated_kinds (T : Txt K mg) : FnP P w K mg base "stated_kinds" 2 R_stated_kinds := by
  have F1 : FnP P w K mg base "stated_by" 1 R_stated_by := fn_stated_by T
  refine fn_pure T.d_stated_kinds sc_stated_kinds (fun _ _ _ _ _ _ us hl => match us, hl with | [_], _ => rfl) (fun ds r ⟨_, h, _⟩ => by rw [h]; rfl) ?_
  rintro ds r ⟨ps, rfl, hp, rfl⟩ f cdv A outer s0 H E hr
  have nd := sc_stated_kinds.nd
  have hl8 := statedAll_len ps
  have z : ∀ n : Nat, n ≤ 100 → n < sizeLine := fun n h => Nat.lt_of_le_of_lt h (by decide)
  walk_at "nf"
  refine sd_newX nd rfl (by walk_at "v") (Nat.le_of_ble_eq_true rfl) ?_
  walk_at "nf"
  refine sd_for (is := [2]) PassesOwn.never rfl (pwi_tup ?_)
  walk_at "w"
  refine ⟨Sen, ps, senD, fun i δ' => ∃ c2 c3, δ' = [.im (sensD ps), .ow (.ox (KdO P w ((((ps.take i).flatMap stated).foldl put []).map kItems))), c2, c3], rfl, ⟨_, _, rfl⟩, ?_, ?_⟩
  · rintro i x δ' hx ⟨c2, c3, rfl⟩
    dsimp only
    refine pwg_nm nd rfl (by walk_at "v") ?_
    walk_at "nf"
    refine sd_for (is := [3]) PassesOwn.never rfl (pwi_list ?_)
    walk_at "w"
    refine ⟨_, ⟨x, rfl, rfl⟩, _, rfl, Kd, stated x, kindD, fun j δ' => ∃ c3, δ' = [.im (sensD ps), .ow (.ox (KdO P w ((((ps.take i).flatMap stated ++ (stated x).take j).foldl put []).map kItems))), .im (senD x), c3], rfl, ⟨c3, ?_⟩, ?_, ?_⟩
    · rw [List.take_zero, List.append_nil]
    · rintro j k δ' hk ⟨c3, rfl⟩
      dsimp only
      have ej : ((ps.take i).flatMap stated ++ (stated x).take (j + 1)).foldl put [] = put (((ps.take i).flatMap stated ++ (stated x).take j).foldl put []) k := by
        rw [List.take_add_one, hk, ← List.append_assoc, List.foldl_append]; rfl
      rw [ej]
      have hlen := len_puts_le (ks := (ps.take i).flatMap stated ++ (stated x).take j) (l := [])
      have h1 := statedAll_len (ps.take i)
      have h2 := stated_len x
      rw [List.length_append, List.length_take] at hlen
      rw [List.length_take] at h1
      generalize ((ps.take i).flatMap stated ++ (stated x).take j).foldl put [] = l0 at *
      refine pwg_nm nd rfl (by walk_at "v") ?_
      walk_at "nf"
      refine sd_putX (hu_of hr) rfl rfl (by walk_at "v") (z _ ?_) ?_
      · rw [List.length_map]
        simp only [List.length_nil] at hlen
        omega
      · walk_at "w"
        refine ⟨kItems k, kindD_items k, kItems_flat k, ?_⟩
        walk_at "w"
        rw [putX_eq]
        exact ⟨.im (kindD k), rfl⟩
    · rintro δ' ⟨c3, rfl⟩
      rw [List.take_length]
      refine sd_nil ⟨.im (senD x), c3, ?_⟩
      rw [List.take_add_one, hx, List.flatMap_append]
      simp
  · rintro δ' ⟨c2, c3, rfl⟩
    rw [List.take_length]
    refine sd_ret ?_
    have hle := statedKinds_len ps
    refine pw_listX 1 rfl T.b_list rfl (by walk_at "v") rfl ?_ (hz := ?_)
    · rw [List.map_map]
      show D.lst _ = D.lst _
      congr 1
      apply List.map_congr_left
      intro k _
      exact (kindD_items k).symm
    · rw [List.length_map]
      exact Nat.le_of_lt (z _ (by show (statedKinds ps).length ≤ 100; omega))
end
end AL
namespace AL
open PySem PySem.Spec PyProof.Rows L2 Mi
local macro_rules | `(tactic| walk_at "v") => `(tactic| first | exact Or.inl rfl | exact Or.inr rfl | exact Or.inr (Or.inl rfl) | exact Or.inr (Or.inr rfl))
local macro_rules | `(tactic| walk_at "we") => `(tactic| first
  | refine pw_nm rfl (by walk_at "v") rfl ?_
  | refine pw_int ?_
  | refine pw_str ?_
  | refine pw_bl ?_
  | (refine gEcmp ?_; walk_at "wc")
  | refine pw_ix ?_
  | (refine gEcall ?_; walk_at "wf")
  | refine pw_tup ?_
  | refine AL.pw_and ?_
  | refine AL.pw_or ?_
  | refine AL.pw_one ?_
  | refine AL.pw_not ?_
  | (refine gEbin ?_; walk_at "wb")
  | refine pw_slice ?_
  | refine pw_lst ?_
  | refine pw_ife ?_
  | refine pw_neg ?_
  | refine pw_non ?_
  | refine pw_gint rfl (Txt.c_MOST_NOUNS (by assumption)) ?_
  | refine pw_gint rfl (Txt.c_MOST_VERBS (by assumption)) ?_
  | refine pw_gint rfl (Txt.c_MOST_PREMISES (by assumption)) ?_
  | refine pw_gint rfl (Txt.c_MOST_SPEAKER (by assumption)) ?_
  | refine pw_gint rfl (Txt.c_MOST_ASSERTIONS (by assumption)) ?_
  | refine pw_gint rfl (Txt.c_MOST_COMMANDS (by assumption)) ?_
  )
local macro_rules | `(tactic| walk_at "wc") => `(tactic| first
  | refine pw_eqS (by assumption) ?_
  | refine pw_eq ?_
  | refine pw_ne ?_
  | refine pw_chainLe ?_
  | refine pw_lt ?_
  | refine pw_le ?_
  | refine pw_gt ?_
  | refine pw_ge ?_
  | refine pw_inG (Txt.c_TWO_NOUNS (by assumption)) rfl ?_
  | refine pw_inG (Txt.c_QUANTITIES (by assumption)) rfl ?_
  )
local macro_rules | `(tactic| walk_at "wf") => `(tactic| first
  | refine pw_len (Txt.b_len (by assumption)) ?_
  | refine pw_isi_int (Txt.b_isinstance (by assumption)) (Txt.b_int (by assumption)) ?_
  | refine pw_isi_bool (Txt.b_isinstance (by assumption)) (Txt.b_bool (by assumption)) ?_
  | refine pw_isi_str (Txt.b_isinstance (by assumption)) (Txt.b_str (by assumption)) ?_
  | refine pw_isi_tuple (Txt.b_isinstance (by assumption)) (Txt.b_tuple (by assumption)) ?_
  | refine pw_isi_list (Txt.b_isinstance (by assumption)) (Txt.b_list (by assumption)) ?_
  | refine pw_tuple (Txt.b_tuple (by assumption)) ?_
  | refine pw_any rfl (Txt.b_any (by assumption)) ?_
  | refine pw_all rfl (Txt.b_all (by assumption)) ?_
  | refine pw_sum rfl (Txt.b_sum (by assumption)) ?_
  | refine pw_min2 rfl (Txt.b_min (by assumption)) ?_
  | refine pw_max2 rfl (Txt.b_max (by assumption)) ?_
  | refine pw_toInt (Txt.b_int (by assumption)) ?_
  | refine pw_call (by assumption) (by assumption) (by decide) rfl ?_
  )
local macro_rules | `(tactic| walk_at "wb") => `(tactic| first
  | refine pw_add ?_
  | refine pw_sub ?_
  | refine pw_mul ?_
  | refine pw_fdiv ?_
  | refine pw_mod ?_
  )
local macro_rules | `(tactic| walk_at "wt") => `(tactic| first
  | (refine gTcmp ?_; walk_at "wd")
  | refine pwt_w ?_
  | refine pwt_not ?_
  | refine pwt_tru (fun _ => rfl) ?_
  )
local macro_rules | `(tactic| walk_at "wd") => `(tactic| first
  | refine pwt_eqS (by assumption) ?_
  | refine pwt_eq ?_
  | refine pwt_ne ?_
  | refine pwt_lt ?_
  | refine pwt_le ?_
  | refine pwt_gt ?_
  | refine pwt_ge ?_
  | refine pwt_inG (Txt.c_TWO_NOUNS (by assumption)) rfl ?_
  | refine pwt_inG (Txt.c_QUANTITIES (by assumption)) rfl ?_
  | refine pwt_inTup ?_
  | refine pwt_inLst ?_
  )
local macro_rules | `(tactic| walk_at "wl") => `(tactic| first
  | refine br_t rfl ?_
  | refine br_f rfl ?_
  | refine rb_t rfl ?_
  | refine rb_f rfl ?_
  | refine ⟨_, rfl, ?_⟩
  | refine ⟨_, _, rfl, rfl, ?_⟩
  | refine ⟨_, _, rfl, ?_⟩
  | refine ⟨rfl, ?_⟩
  | refine ⟨dp_ok _ rfl rfl, ?_⟩
  | refine ⟨_, _, _, rfl, rfl, rfl, ?_⟩
  | refine ⟨le_line (Nat.le_of_ble_eq_true rfl), ?_⟩
  | refine ⟨_, _, _, rfl, rfl, ?_⟩
  | exact rfl
  )
local macro_rules | `(tactic| walk_at "w1") => `(tactic| first
  | (refine gE ?_; walk_at "we")
  | (refine gT ?_; walk_at "wt")
  | (refine gA ?_; first | refine pwa_cons ?_ | refine pwa_nil ?_)
  | (refine gW ?_; first | refine pww_and ?_ | refine pww_or ?_ | refine pww_and1 ?_ | refine pww_or1 ?_)
  | (refine gS ?_; walk_at "nf"; first | refine sd_ret ?_ | refine sd_if ?_ | refine sd_newLN (by assumption) rfl (by walk_at "v") (Nat.le_of_ble_eq_true rfl) ?_ | refine sd_setN (by assumption) rfl (by walk_at "v") ?_ | refine sd_appendN rfl rfl (by walk_at "v") ?_ | refine sd_nil ?_)
  | (refine gP ?_; first | refine pwp_none ?_ | refine pwp_some ?_)
  | walk_at "wl"
  )
local macro_rules | `(tactic| walk_at "w") => `(tactic| repeat walk_at "w1")

section
variable {P : Program} {w : World} {K : PySem.W.Frag} {mg : Str → Option Value} {base : Heap}
theorem putI_eq {l : List Int} {k : Int} : putI l k = put l k := by unfold putI put; by_cases h : k ∈ l <;> simp [h]
/-- tables within their bounds -/
theorem tab_small {n : Nat} {t : Tab} (hn : n ≤ 4) (h : TabOk n t) : t.length ≤ 16 := Nat.le_trans h.len (by
  have : n = 0 ∨ n = 1 ∨ n = 2 ∨ n = 3 ∨ n = 4 := by omega
  rcases this with h | h | h | h | h <;> subst h <;> decide)
def R_required_nouns : List D → D → Prop := fun ds r => ∃ (n m : Nat) (ps : List Sen), ds = [sigD n m, sensD ps] ∧ Prem n m ps ∧ r = .lst ((requiredNouns n ps).map .int)
local macro_rules | `(tactic| walk_at "nf") => `(tactic| first | refine nfS (δ' := [_, _, _, _, _, _, _, _, _, _, _, _]) rfl ?_ | refine nfE (δ' := [_, _, _, _, _, _, _, _, _, _, _, _]) rfl ?_ | refine nfT (δ' := [_, _, _, _, _, _, _, _, _, _, _, _]) rfl ?_ | refine nfTs (δ' := [_, _, _, _, _, _, _, _, _, _, _, _]) rfl ?_ | refine nfI (δ' := [_, _, _, _, _, _, _, _, _, _, _, _]) rfl ?_ | refine nfG (δ' := [_, _, _, _, _, _, _, _, _, _, _, _]) rfl ?_ | refine nfX (δ' := [_, _, _, _, _, _, _, _, _, _, _, _]) rfl ?_ | refine nfXO (δ' := [_, _, _, _, _, _, _, _, _, _, _, _]) rfl ?_)
theorem fn_required_nouns (T : Txt K mg) : FnP P w K mg base "required_nouns" 3 R_required_nouns := by
  have F1 : FnP P w K mg base "table_of" 2 R_table_of := fn_table_of T
  have F2 : FnP P w K mg base "stated_kinds" 2 R_stated_kinds := fn_stated_kinds T
  have F3 : FnP P w K mg base "above" 2 R_above := fn_above T
  refine fn_pure T.d_required_nouns sc_required_nouns (fun _ _ _ _ _ _ us hl => match us, hl with | [_, _], _ => rfl) (fun ds r ⟨_, _, _, h, _⟩ => by rw [h]; rfl) ?_
  rintro ds r ⟨n, m, ps, rfl, ok, rfl⟩ f cdv A outer s0 H E hr
  have nd := sc_required_nouns.nd
  have ok' := ok
  obtain ⟨⟨hn1, hn2, hm2⟩, hp8, hok⟩ := ok'
  have z : ∀ n : Nat, n ≤ 100 → n < sizeLine := fun n h => Nat.lt_of_le_of_lt h (by decide)
  have eR : requiredNouns n ps = (rgI n).filter fun z => decide (z ∈ rfix n (tableOf n ps).1 (tableOf n ps).2 (ps.filter asks) (n + 1) (found0 n (tableOf n ps).1 ps)) := rfl
  have eF : found0 n (tableOf n ps).1 ps = ((statedKinds ps).flatMap fun k => above (tableOf n ps).1 k n).foldl put [] := rfl
  have okF : IntOk n (found0 n (tableOf n ps).1 ps) := found0_ok
  walk_at "nf"
  refine sd_asg (is := [2, 3]) ?_
  walk_at "w"
  refine ⟨_, ⟨n, m, ps, rfl, ok, rfl⟩, ?_⟩
  refine pwg_pair nd rfl rfl rfl (by walk_at "v") (by walk_at "v") ?_
  generalize (tableOf n ps).1 = sub at *
  generalize (tableOf n ps).2 = most at *
  walk_at "nf"
  refine sd_newKN nd rfl (by walk_at "v") (Nat.le_of_ble_eq_true rfl) ?_
  walk_at "nf"
  refine sd_for (is := [5]) PassesOwn.never rfl (pwi_list ?_)
  walk_at "w"
  refine ⟨_, ⟨ps, rfl, hp8, rfl⟩, _, rfl, Kd, statedKinds ps, kindD, fun i δ' => ∃ c5 c6, δ' = [.im (sigD n m), .im (sensD ps), .im (.tab sub), .im (.tab most), .ow (.ik ((((statedKinds ps).take i).flatMap fun k => above sub k n).foldl put [])), c5, c6, .un, .un, .un, .un, .un], rfl, ⟨_, _, rfl⟩, ?_, ?_⟩
  · rintro i k δ' hk ⟨c5, c6, rfl⟩
    dsimp only
    refine pwg_nm nd rfl (by walk_at "v") ?_
    walk_at "nf"
    refine sd_for (is := [6]) PassesOwn.never rfl (pwi_tup ?_)
    walk_at "w"
    refine ⟨_, ⟨n, m, sub, k, rfl, hn2, rfl⟩, _, rfl, Int, above sub k n, D.int, fun j δ' => ∃ c6, δ' = [.im (sigD n m), .im (sensD ps), .im (.tab sub), .im (.tab most), .ow (.ik (((((statedKinds ps).take i).flatMap fun k => above sub k n) ++ (above sub k n).take j).foldl put [])), .im (kindD k), c6, .un, .un, .un, .un, .un], rfl, ⟨c6, ?_⟩, ?_, ?_⟩
    · rw [List.take_zero, List.append_nil]
    · rintro j y δ' hy ⟨c6, rfl⟩
      dsimp only
      have ej : ((((statedKinds ps).take i).flatMap fun k => above sub k n) ++ (above sub k n).take (j + 1)).foldl put [] = put (((((statedKinds ps).take i).flatMap fun k => above sub k n) ++ (above sub k n).take j).foldl put []) y := by
        rw [List.take_add_one, hy, ← List.append_assoc, List.foldl_append]; rfl
      rw [ej]
      have okl : IntOk n (((((statedKinds ps).take i).flatMap fun k => above sub k n) ++ (above sub k n).take j).foldl put []) := IntOk.puts ⟨List.nodup_nil, fun x hx => nomatch hx⟩ fun q hq => by
        rcases List.mem_append.mp hq with hq | hq
        · obtain ⟨_, _, h⟩ := List.mem_flatMap.mp hq
          exact above_rg q h
        · exact above_rg q (List.mem_of_mem_take hq)
      have hl := okl.len
      generalize ((((statedKinds ps).take i).flatMap fun k => above sub k n) ++ (above sub k n).take j).foldl put [] = l0 at *
      refine pwg_nm nd rfl (by walk_at "v") ?_
      walk_at "nf"
      refine sd_putKN (hu_of hr) rfl rfl (by walk_at "v") (z _ (by omega)) ?_
      walk_at "w"
      exact ⟨.im (.int y), by rw [putI_eq]⟩
    · rintro δ' ⟨c6, rfl⟩
      rw [List.take_length]
      refine sd_nil ⟨.im (kindD k), c6, ?_⟩
      rw [List.take_add_one, hk, List.flatMap_append]
      simp
  · rintro δ' ⟨c5, c6, rfl⟩
    rw [List.take_length, ← eF]
    walk_at "w"
    refine sd_for (is := [8]) PassesOwn.never rfl (pwi_tup ?_)
    walk_at "w"
    refine ⟨Sen, ps, senD, fun i δ' => ∃ c8, δ' = [.im (sigD n m), .im (sensD ps), .im (.tab sub), .im (.tab most), .ow (.ik (found0 n sub ps)), c5, c6, .ow (.lst (((ps.take i).filter asks).map senD)), c8, .un, .un, .un], rfl, ⟨_, rfl⟩, ?_, ?_⟩
    · rintro i x δ' hx ⟨c8, rfl⟩
      dsimp only
      have ei : (ps.take (i + 1)).filter asks = (ps.take i).filter asks ++ if asks x then [x] else [] := by
        rw [List.take_add_one, hx, List.filter_append]
        by_cases h : asks x = true <;> simp [h]
      have hl : (((ps.take i).filter asks).map senD).length ≤ 8 := by
        rw [List.length_map]
        refine Nat.le_trans (List.length_filter_le _ _) ?_
        rw [List.length_take]
        omega
      generalize (ps.take (i + 1)).filter asks = l1 at *
      generalize (ps.take i).filter asks = l0 at *
      refine pwg_nm nd rfl (by walk_at "v") ?_
      cases x with
      | verb q x d v b p y =>
        cases q <;> cases p
        · have e1 : l1 = l0 := by rw [ei]; simp [asks]
          subst e1
          walk_at "nf"
          refine sd_if (pwt_w (pww_and (pwt_eqD hr.units ?_)))
          walk_at "w"
          exact ⟨_, rfl⟩
        · have e1 : l1 = l0 := by rw [ei]; simp [asks]
          subst e1
          walk_at "nf"
          refine sd_if (pwt_w (pww_and (pwt_eqD hr.units ?_)))
          walk_at "w"
          exact ⟨_, rfl⟩
        · have e1 : l1 = l0 ++ [.verb true x d v b false y] := by rw [ei]; simp [asks]
          subst e1
          walk_at "nf"
          refine sd_if (pwt_w (pww_and (pwt_eqD hr.units ?_)))
          walk_at "w"
          refine ⟨z _ (by omega), ?_⟩
          walk_at "w"
          refine ⟨.im (senD (.verb true x d v b false y)), ?_⟩
          rw [List.map_append]; rfl
        · have e1 : l1 = l0 := by rw [ei]; simp [asks]
          subst e1
          walk_at "nf"
          refine sd_if (pwt_w (pww_and (pwt_eqD hr.units ?_)))
          walk_at "w"
          exact ⟨_, rfl⟩
      | self q x d v =>
        have e1 : l1 = l0 := by rw [ei]; simp [asks]
        subst e1
        cases q
        all_goals
          walk_at "nf"
          refine sd_if (pwt_w (pww_and (pwt_eqD hr.units ?_)))
          walk_at "w"
          exact ⟨_, rfl⟩
      | _ =>
        have e1 : l1 = l0 := by rw [ei]; simp [asks]
        subst e1
        walk_at "nf"
        refine sd_if (pwt_w (pww_and (pwt_eqD hr.units ?_)))
        walk_at "w"
        exact ⟨_, rfl⟩
    · rintro δ' ⟨c8, rfl⟩
      rw [List.take_length]
      refine sd_freeze 7 rfl rfl ?_
      have hask : ∀ x ∈ ps.filter asks, x.ok n m := fun x hx => hok x (List.mem_filter.mp hx).1
      have hasks : ∀ x ∈ ps.filter asks, asks x = true := fun x hx => (List.mem_filter.mp hx).2
      generalize ps.filter asks = asked at *
      generalize found0 n sub ps = fd0 at *
      walk_at "w"
      refine sd_while (fun k δ' => ∃ (fd : List Int) (b : Int) (c5 c6 c8 c10 : Cell), δ' = [.im (sigD n m), .im (sensD ps), .im (.tab sub), .im (.tab most), .ow (.ik fd), c5, c6, .im (.lst (asked.map senD)), c8, .im (.int b), c10, .un] ∧ IntOk n fd ∧ (b < (fd.length : Int) → n + 1 ≤ k + fd.length ∧ rfix n sub most asked k fd = rfix n sub most asked (n + 1) fd0) ∧ (¬ b < (fd.length : Int) → fd = rfix n sub most asked (n + 1) fd0))
        (n0 := n + 1) PassesOwn.never ⟨fd0, -1, c5, c6, c8, .un, rfl, okF, fun _ => ⟨by omega, rfl⟩, fun h => absurd (show (-1 : Int) < _ by omega) h⟩ ?_
      rintro k δ' ⟨fd, b, c5', c6', c8', c10, rfl, okd, hyes, hno⟩
      refine pwt_gt (pw_lenO 4 T.b_len rfl (by walk_at "v") rfl rfl ?_)
      walk_at "w"
      refine ⟨fun hb => ?_, fun hb => ?_⟩
      · have hb1 := of_decide_eq_true hb
        obtain ⟨hf, ef⟩ := hyes hb1
        have l1 := okd.len
        obtain ⟨g, rfl⟩ : ∃ g, k = g + 1 := ⟨k - 1, by omega⟩
        refine sd_setN nd rfl (by walk_at "v") (pw_lenO 4 T.b_len rfl (by walk_at "v") rfl rfl ?_)
        walk_at "nf"
        refine sd_setN nd rfl (by walk_at "v") (pw_listO 4 rfl T.b_list rfl (by walk_at "v") rfl (Nat.le_of_lt (z _ (by omega))) ?_)
        walk_at "nf"
        refine sd_for (is := [6]) PassesOwn.never rfl (pwi_range1 T.b_range ?_)
        walk_at "w"
        refine ⟨by omega, by omega, Int, rgI n, D.int, fun i δ' => ∃ c6, δ' = [.im (sigD n m), .im (sensD ps), .im (.tab sub), .im (.tab most), .ow (.ik (((rgI n).take i).foldl (nstep sub most fd) fd)), c5', c6, .im (.lst (asked.map senD)), c8', .im (.int (fd.length : Int)), .im (.lst (fd.map .int)), .un], rgD0 n, ⟨_, rfl⟩, ?_, ?_⟩
        · rintro i x δ' hx ⟨c6, rfl⟩
          dsimp only
          rw [take_foldl hx]
          have hxn : Nn n x := mem_rgI.mp (List.mem_of_getElem? hx)
          have okg := nsteps_ok (zs := (rgI n).take i) (s := sub) (m := most) (f := fd) okd fun y hy => mem_rgI.mp (List.mem_of_mem_take hy)
          have hl := okg.len
          generalize ((rgI n).take i).foldl (nstep sub most fd) fd = g0 at *
          refine pwg_nm nd rfl (by walk_at "v") ?_
          walk_at "nf"
          refine sd_if (pwt_val (fun _ => rfl) ?_)
          walk_at "w"
          refine pw_lcM (own := [("own", 11)]) rfl nd (blk_of sc_required_nouns rfl rfl (by decide +kernel)) (pwi_list ?_)
          walk_at "w"
          refine ⟨Int, fd, D.int, fun o => .bl (has sub o x || has most x o), [11], rfl, by decide, ?_, ?_⟩
          · intro o ho _ _ _ _ _
            refine pwg_nm nd rfl (by walk_at "v") ?_
            intro _ _ _ _ _; walk_at "nf"
            refine AL.pw_or (pw_inT (hu_of hr) ?_)
            walk_at "w"
            refine ⟨fun h => ?_, fun h => ?_⟩
            · refine AL.pw_one (pw_inT (hu_of hr) ?_)
              walk_at "w"
              show D.bl (decide _ || decide _) = _
              rw [h]; rfl
            · show D.bl (decide _ || decide _) = _
              rw [h]; rfl
          · walk_at "w"
            refine ⟨_, mm, _, rfl, ?_⟩
            rw [List.any_map]
            refine ⟨fun h => ?_, fun h => ?_⟩
            · refine sd_putKN (hu_of hr) rfl rfl (by walk_at "v") (z _ (by omega)) ?_
              walk_at "w"
              have e : nstep sub most fd g0 x = put g0 x := if_pos h
              exact ⟨.im (.int x), by rw [putI_eq, e]⟩
            · walk_at "w"
              have e : nstep sub most fd g0 x = g0 := if_neg (fun z => Bool.false_ne_true (h.symm.trans z))
              exact ⟨.im (.int x), by rw [e]⟩
        · rintro δ' ⟨c6, rfl⟩
          rw [List.take_of_length_le (Nat.le_refl _)]
          have ok1 := nsteps_ok (zs := rgI n) (s := sub) (m := most) (f := fd) okd fun y hy => mem_rgI.mp hy
          have er : rstep n sub most asked fd = asked.foldl askPut ((rgI n).foldl (nstep sub most fd) fd) := rfl
          have ok2 : IntOk n (rstep n sub most asked fd) := rstep_ok okd hask
          have le2 : fd.length ≤ (rstep n sub most asked fd).length := rstep_le
          generalize (rgI n).foldl (nstep sub most fd) fd = g1 at *
          refine sd_for (is := [8]) PassesOwn.never rfl (pwi_list ?_)
          walk_at "w"
          refine ⟨Sen, asked, senD, fun i δ' => ∃ c8, δ' = [.im (sigD n m), .im (sensD ps), .im (.tab sub), .im (.tab most), .ow (.ik ((asked.take i).foldl askPut g1)), c5', c6, .im (.lst (asked.map senD)), c8, .im (.int (fd.length : Int)), .im (.lst (fd.map .int)), .un], rfl, ⟨_, rfl⟩, ?_, ?_⟩
          · rintro i x δ' hx ⟨c8, rfl⟩
            dsimp only
            rw [take_foldl hx]
            have hxa := hask x (List.mem_of_getElem? hx)
            have hxk := hasks x (List.mem_of_getElem? hx)
            have okg := askPuts_ok (xs := asked.take i) ok1 fun y hy => hask y (List.mem_of_mem_take hy)
            have hl := okg.len
            generalize (asked.take i).foldl askPut g1 = g2 at *
            refine pwg_nm nd rfl (by walk_at "v") ?_
            cases x with
            | verb q x d v b p y =>
              walk_at "nf"
              refine sd_if (pwt_borrow 4 rfl rfl (pwt_inK (hu_of hr) ?_))
              walk_at "w"
              refine ⟨fun h => ?_, fun h => ?_⟩
              · refine sd_putKN (hu_of hr) rfl rfl (by walk_at "v") (z _ (by omega)) ?_
                walk_at "w"
                have e : askPut g2 (.verb q x d v b p y) = put g2 y := if_pos (of_decide_eq_true h)
                exact ⟨.im (senD (.verb q x d v b p y)), by rw [putI_eq, e]⟩
              · walk_at "w"
                have e : askPut g2 (.verb q x d v b p y) = g2 := if_neg (of_decide_eq_false h)
                exact ⟨.im (senD (.verb q x d v b p y)), by rw [e]⟩
            | _ => exact absurd hxk Bool.false_ne_true
          · rintro δ' ⟨c8, rfl⟩
            rw [List.take_length, ← er]
            refine sd_nil ?_
            by_cases hg : (rstep n sub most asked fd).length > fd.length
            · refine ⟨g, by omega, _, _, _, _, _, _, rfl, ok2, fun _ => ⟨by omega, ?_⟩, fun h => absurd ?_ h⟩
              · rw [← ef, rfix, if_pos hg]
              · omega
            · refine ⟨0, by omega, _, _, _, _, _, _, rfl, ok2, fun h => absurd h (by omega), fun _ => ?_⟩
              rw [← ef, rfix, if_neg hg]
      · have hb1 := of_decide_eq_false hb
        have e := hno hb1
        refine sd_ret ?_
        rw [← e] at eR
        refine pw_sortedO 4 rfl T.b_sorted rfl (by walk_at "v") rfl ?_ (perm_nouns okd) sorted_nouns ?_
        · have := okd.len
          omega
        · rw [eR]
end
end AL
namespace AL
open PySem PySem.Spec PyProof.Rows L2 Mi
local macro_rules | `(tactic| walk_at "v") => `(tactic| first | exact Or.inl rfl | exact Or.inr rfl | exact Or.inr (Or.inl rfl) | exact Or.inr (Or.inr rfl))
local macro_rules | `(tactic| walk_at "we") => `(tactic| first
  | refine pw_nm rfl (by walk_at "v") rfl ?_
  | refine pw_int ?_
  | refine pw_str ?_
  | refine pw_bl ?_
  | (refine gEcmp ?_; walk_at "wc")
  | refine pw_ix ?_
  | (refine gEcall ?_; walk_at "wf")
  | refine pw_tup ?_
  | refine AL.pw_and ?_
  | refine AL.pw_or ?_
  | refine AL.pw_one ?_
  | refine AL.pw_not ?_
  | (refine gEbin ?_; walk_at "wb")
  | refine pw_slice ?_
  | refine pw_lst ?_
  | refine pw_ife ?_
  | refine pw_neg ?_
  | refine pw_non ?_
  | refine pw_gint rfl (Txt.c_MOST_NOUNS (by assumption)) ?_
  | refine pw_gint rfl (Txt.c_MOST_VERBS (by assumption)) ?_
  | refine pw_gint rfl (Txt.c_MOST_PREMISES (by assumption)) ?_
  | refine pw_gint rfl (Txt.c_MOST_SPEAKER (by assumption)) ?_
  | refine pw_gint rfl (Txt.c_MOST_ASSERTIONS (by assumption)) ?_
  | refine pw_gint rfl (Txt.c_MOST_COMMANDS (by assumption)) ?_
  )
local macro_rules | `(tactic| walk_at "wc") => `(tactic| first
  | refine pw_eqS (by assumption) ?_
  | refine pw_eq ?_
  | refine pw_ne ?_
  | refine pw_chainLe ?_
  | refine pw_lt ?_
  | refine pw_le ?_
  | refine pw_gt ?_
  | refine pw_ge ?_
  | refine pw_inG (Txt.c_TWO_NOUNS (by assumption)) rfl ?_
  | refine pw_inG (Txt.c_QUANTITIES (by assumption)) rfl ?_
  )
local macro_rules | `(tactic| walk_at "wf") => `(tactic| first
  | refine pw_len (Txt.b_len (by assumption)) ?_
  | refine pw_isi_int (Txt.b_isinstance (by assumption)) (Txt.b_int (by assumption)) ?_
  | refine pw_isi_bool (Txt.b_isinstance (by assumption)) (Txt.b_bool (by assumption)) ?_
  | refine pw_isi_str (Txt.b_isinstance (by assumption)) (Txt.b_str (by assumption)) ?_
  | refine pw_isi_tuple (Txt.b_isinstance (by assumption)) (Txt.b_tuple (by assumption)) ?_
  | refine pw_isi_list (Txt.b_isinstance (by assumption)) (Txt.b_list (by assumption)) ?_
  | refine pw_tuple (Txt.b_tuple (by assumption)) ?_
  | refine pw_any rfl (Txt.b_any (by assumption)) ?_
  | refine pw_all rfl (Txt.b_all (by assumption)) ?_
  | refine pw_sum rfl (Txt.b_sum (by assumption)) ?_
  | refine pw_min2 rfl (Txt.b_min (by assumption)) ?_
  | refine pw_max2 rfl (Txt.b_max (by assumption)) ?_
  | refine pw_toInt (Txt.b_int (by assumption)) ?_
  | refine pw_call (by assumption) (by assumption) (by decide) rfl ?_
  )
local macro_rules | `(tactic| walk_at "wb") => `(tactic| first
  | refine pw_add ?_
  | refine pw_sub ?_
  | refine pw_mul ?_
  | refine pw_fdiv ?_
  | refine pw_mod ?_
  )
local macro_rules | `(tactic| walk_at "wt") => `(tactic| first
  | (refine gTcmp ?_; walk_at "wd")
  | refine pwt_w ?_
  | refine pwt_not ?_
  | refine pwt_tru (fun _ => rfl) ?_
  )
local macro_rules | `(tactic| walk_at "wd") => `(tactic| first
  | refine pwt_eqS (by assumption) ?_
  | refine pwt_eq ?_
  | refine pwt_ne ?_
  | refine pwt_lt ?_
  | refine pwt_le ?_
  | refine pwt_gt ?_
  | refine pwt_ge ?_
  | refine pwt_inG (Txt.c_TWO_NOUNS (by assumption)) rfl ?_
  | refine pwt_inG (Txt.c_QUANTITIES (by assumption)) rfl ?_
  | refine pwt_inTup ?_
  | refine pwt_inLst ?_
  )
local macro_rules | `(tactic| walk_at "wl") => `(tactic| first
  | refine br_t rfl ?_
  | refine br_f rfl ?_
  | refine rb_t rfl ?_
  | refine rb_f rfl ?_
  | refine ⟨_, rfl, ?_⟩
  | refine ⟨_, _, rfl, rfl, ?_⟩
  | refine ⟨_, _, rfl, ?_⟩
  | refine ⟨rfl, ?_⟩
  | refine ⟨dp_ok _ rfl rfl, ?_⟩
  | refine ⟨_, _, _, rfl, rfl, rfl, ?_⟩
  | refine ⟨le_line (Nat.le_of_ble_eq_true rfl), ?_⟩
  | refine ⟨_, _, _, rfl, rfl, ?_⟩
  | exact rfl
  )
local macro_rules | `(tactic| walk_at "w1") => `(tactic| first
  | (refine gE ?_; walk_at "we")
  | (refine gT ?_; walk_at "wt")
  | (refine gA ?_; first | refine pwa_cons ?_ | refine pwa_nil ?_)
  | (refine gW ?_; first | refine pww_and ?_ | refine pww_or ?_ | refine pww_and1 ?_ | refine pww_or1 ?_)
  | (refine gS ?_; walk_at "nf"; first | refine sd_ret ?_ | refine sd_if ?_ | refine sd_newLN (by assumption) rfl (by walk_at "v") (Nat.le_of_ble_eq_true rfl) ?_ | refine sd_setN (by assumption) rfl (by walk_at "v") ?_ | refine sd_appendN rfl rfl (by walk_at "v") ?_ | refine sd_nil ?_)
  | (refine gP ?_; first | refine pwp_none ?_ | refine pwp_some ?_)
  | walk_at "wl"
  )
local macro_rules | `(tactic| walk_at "w") => `(tactic| repeat walk_at "w1")

section
variable {P : Program} {w : World} {K : PySem.W.Frag} {mg : Str → Option Value} {base : Heap}
theorem isOne_seq (k : Kd) : ∃ l, kindD k = .tup l ∧ ∃ s, l[0]? = some (.str s) ∧ decide (s = ("one" : Str)) = isOne k := by
  cases k
  · exact ⟨_, rfl, _, rfl, rfl⟩
  · exact ⟨_, rfl, _, rfl, rfl⟩
  · exact ⟨_, rfl, _, rfl, rfl⟩
  · exact ⟨_, rfl, _, rfl, rfl⟩
def R_required_kinds : List D → D → Prop := fun ds r => ∃ (n m : Nat) (ps : List Sen), ds = [sigD n m, sensD ps] ∧ Prem n m ps ∧ r = .lst ((requiredKinds n ps).map kindD)
theorem requiredNouns_len (n : Nat) (ps : List Sen) : (requiredNouns n ps).length ≤ n := by
  refine Nat.le_trans (List.length_filter_le _ _) ?_
  rw [len_rgI]
  exact Nat.le_refl n
local macro_rules | `(tactic| walk_at "nf") => `(tactic| first | refine nfS (δ' := [_, _, _, _, _]) rfl ?_ | refine nfE (δ' := [_, _, _, _, _]) rfl ?_ | refine nfT (δ' := [_, _, _, _, _]) rfl ?_ | refine nfTs (δ' := [_, _, _, _, _]) rfl ?_ | refine nfI (δ' := [_, _, _, _, _]) rfl ?_ | refine nfG (δ' := [_, _, _, _, _]) rfl ?_ | refine nfX (δ' := [_, _, _, _, _]) rfl ?_ | refine nfXO (δ' := [_, _, _, _, _]) rfl ?_)
theorem fn_required_kinds (T : Txt K mg) : FnP P w K mg base "required_kinds" 4 R_required_kinds := by
  have F1 : FnP P w K mg base "required_nouns" 3 R_required_nouns := fn_required_nouns T
  have F2 : FnP P w K mg base "stated_kinds" 2 R_stated_kinds := fn_stated_kinds T
  refine fn_pure T.d_required_kinds sc_required_kinds (fun _ _ _ _ _ _ us hl => match us, hl with | [_, _], _ => rfl) (fun ds r ⟨_, _, _, h, _⟩ => by rw [h]; rfl) ?_
  rintro ds r ⟨n, m, ps, rfl, ok, rfl⟩ f cdv A outer s0 H E hr
  have nd := sc_required_kinds.nd
  walk_at "nf"
  refine sd_setLc rfl nd (blk_of (own := [("noun", 3)]) sc_required_kinds rfl rfl (by decide +kernel)) (i := 2) rfl (lcxM (pwi_list ?_))
  walk_at "w"
  refine ⟨_, ⟨n, m, ps, rfl, ok, rfl⟩, _, rfl, Int, requiredNouns n ps, D.int, fun x => kindD (.one x), [3], rfl, by decide, ?_, ?_⟩
  · intro x hx _ _ _ _ _
    refine pwg_nm nd rfl (by walk_at "v") ?_
    intro _ _ _ _ _; walk_at "nf"
    walk_at "w"
  · walk_at "nf"
    refine sd_ret (pw_catL ?_)
    walk_at "w"
    refine pw_lc (own := [("kind", 4)]) rfl nd (blk_of sc_required_kinds rfl rfl (by decide +kernel)) (pwi_list ?_)
    walk_at "w"
    refine ⟨_, ⟨ps, rfl, ok.2.1, rfl⟩, _, rfl, Kd, statedKinds ps, kindD, fun k => if (!isOne k) = true then some (kindD k) else none, [4], rfl, by decide, ?_, ?_⟩
    · intro k hk _ _ _ _ _
      refine pwg_nm nd rfl (by walk_at "v") ?_
      intro _ _ _ _ _; walk_at "nf"
      refine pwts_one ?_
      cases k with
      | one x => walk_at "w"
      | _ =>
        walk_at "w"
        intro _ _ _ _ _; walk_at "nf"
        walk_at "w"
    · refine ⟨_, _, rfl, rfl, ?_, ?_⟩
      · rw [List.length_map]
        have h1 := requiredNouns_len n ps
        have h2 := statedKinds_len ps
        have h3 := List.length_filterMap_le (fun k => if (!isOne k) = true then some (kindD k) else none) (statedKinds ps)
        have h4 := ok.1.2.1
        have h5 := ok.2.1
        exact le_line (by omega)
      · rw [fm_filter]
        show D.lst _ = D.lst _
        unfold requiredKinds
        rw [List.map_append, List.map_map]
        rfl
end
end AL
namespace AL
open PySem PySem.Spec PyProof.Rows L2 Mi
local macro_rules | `(tactic| walk_at "v") => `(tactic| first | exact Or.inl rfl | exact Or.inr rfl | exact Or.inr (Or.inl rfl) | exact Or.inr (Or.inr rfl))
local macro_rules | `(tactic| walk_at "we") => `(tactic| first
  | refine pw_nm rfl (by walk_at "v") rfl ?_
  | refine pw_int ?_
  | refine pw_str ?_
  | refine pw_bl ?_
  | (refine gEcmp ?_; walk_at "wc")
  | refine pw_ix ?_
  | (refine gEcall ?_; walk_at "wf")
  | refine pw_tup ?_
  | refine AL.pw_and ?_
  | refine AL.pw_or ?_
  | refine AL.pw_one ?_
  | refine AL.pw_not ?_
  | (refine gEbin ?_; walk_at "wb")
  | refine pw_slice ?_
  | refine pw_lst ?_
  | refine pw_ife ?_
  | refine pw_neg ?_
  | refine pw_non ?_
  | refine pw_gint rfl (Txt.c_MOST_NOUNS (by assumption)) ?_
  | refine pw_gint rfl (Txt.c_MOST_VERBS (by assumption)) ?_
  | refine pw_gint rfl (Txt.c_MOST_PREMISES (by assumption)) ?_
  | refine pw_gint rfl (Txt.c_MOST_SPEAKER (by assumption)) ?_
  | refine pw_gint rfl (Txt.c_MOST_ASSERTIONS (by assumption)) ?_
  | refine pw_gint rfl (Txt.c_MOST_COMMANDS (by assumption)) ?_
  )
local macro_rules | `(tactic| walk_at "wc") => `(tactic| first
  | refine pw_eqS (by assumption) ?_
  | refine pw_eq ?_
  | refine pw_ne ?_
  | refine pw_chainLe ?_
  | refine pw_lt ?_
  | refine pw_le ?_
  | refine pw_gt ?_
  | refine pw_ge ?_
  | refine pw_inG (Txt.c_TWO_NOUNS (by assumption)) rfl ?_
  | refine pw_inG (Txt.c_QUANTITIES (by assumption)) rfl ?_
  )
local macro_rules | `(tactic| walk_at "wf") => `(tactic| first
  | refine pw_len (Txt.b_len (by assumption)) ?_
  | refine pw_isi_int (Txt.b_isinstance (by assumption)) (Txt.b_int (by assumption)) ?_
  | refine pw_isi_bool (Txt.b_isinstance (by assumption)) (Txt.b_bool (by assumption)) ?_
  | refine pw_isi_str (Txt.b_isinstance (by assumption)) (Txt.b_str (by assumption)) ?_
  | refine pw_isi_tuple (Txt.b_isinstance (by assumption)) (Txt.b_tuple (by assumption)) ?_
  | refine pw_isi_list (Txt.b_isinstance (by assumption)) (Txt.b_list (by assumption)) ?_
  | refine pw_tuple (Txt.b_tuple (by assumption)) ?_
  | refine pw_any rfl (Txt.b_any (by assumption)) ?_
  | refine pw_all rfl (Txt.b_all (by assumption)) ?_
  | refine pw_sum rfl (Txt.b_sum (by assumption)) ?_
  | refine pw_min2 rfl (Txt.b_min (by assumption)) ?_
  | refine pw_max2 rfl (Txt.b_max (by assumption)) ?_
  | refine pw_toInt (Txt.b_int (by assumption)) ?_
  | refine pw_call (by assumption) (by assumption) (by decide) rfl ?_
  )
local macro_rules | `(tactic| walk_at "wb") => `(tactic| first
  | refine pw_add ?_
  | refine pw_sub ?_
  | refine pw_mul ?_
  | refine pw_fdiv ?_
  | refine pw_mod ?_
  )
local macro_rules | `(tactic| walk_at "wt") => `(tactic| first
  | (refine gTcmp ?_; walk_at "wd")
  | refine pwt_w ?_
  | refine pwt_not ?_
  | refine pwt_tru (fun _ => rfl) ?_
  )
local macro_rules | `(tactic| walk_at "wd") => `(tactic| first
  | refine pwt_eqS (by assumption) ?_
  | refine pwt_eq ?_
  | refine pwt_ne ?_
  | refine pwt_lt ?_
  | refine pwt_le ?_
  | refine pwt_gt ?_
  | refine pwt_ge ?_
  | refine pwt_inG (Txt.c_TWO_NOUNS (by assumption)) rfl ?_
  | refine pwt_inG (Txt.c_QUANTITIES (by assumption)) rfl ?_
  | refine pwt_inTup ?_
  | refine pwt_inLst ?_
  )
local macro_rules | `(tactic| walk_at "wl") => `(tactic| first
  | refine br_t rfl ?_
  | refine br_f rfl ?_
  | refine rb_t rfl ?_
  | refine rb_f rfl ?_
  | refine ⟨_, rfl, ?_⟩
  | refine ⟨_, _, rfl, rfl, ?_⟩
  | refine ⟨_, _, rfl, ?_⟩
  | refine ⟨rfl, ?_⟩
  | refine ⟨dp_ok _ rfl rfl, ?_⟩
  | refine ⟨_, _, _, rfl, rfl, rfl, ?_⟩
  | refine ⟨le_line (Nat.le_of_ble_eq_true rfl), ?_⟩
  | refine ⟨_, _, _, rfl, rfl, ?_⟩
  | exact rfl
  )
local macro_rules | `(tactic| walk_at "w1") => `(tactic| first
  | (refine gE ?_; walk_at "we")
  | (refine gT ?_; walk_at "wt")
  | (refine gA ?_; first | refine pwa_cons ?_ | refine pwa_nil ?_)
  | (refine gW ?_; first | refine pww_and ?_ | refine pww_or ?_ | refine pww_and1 ?_ | refine pww_or1 ?_)
  | (refine gS ?_; walk_at "nf"; first | refine sd_ret ?_ | refine sd_if ?_ | refine sd_newLN (by assumption) rfl (by walk_at "v") (Nat.le_of_ble_eq_true rfl) ?_ | refine sd_setN (by assumption) rfl (by walk_at "v") ?_ | refine sd_appendN rfl rfl (by walk_at "v") ?_ | refine sd_nil ?_)
  | (refine gP ?_; first | refine pwp_none ?_ | refine pwp_some ?_)
  | walk_at "wl"
  )
local macro_rules | `(tactic| walk_at "w") => `(tactic| repeat walk_at "w1")

section
variable {P : Program} {w : World} {K : PySem.W.Frag} {mg : Str → Option Value} {base : Heap}
def R_is_forced : List D → D → Prop := fun ds r => ∃ (n m : Nat) (ps : List Sen) (s : Tab) (v : Int) (f g : Kd) (does : Bool), ds = [sigD n m, sensD ps, .tab s, .int v, kindD f, kindD g, .bl does] ∧ n ≤ 4 ∧ ps.length ≤ 8 ∧ r = .bl (isForced n ps s v f g does)
local macro_rules | `(tactic| walk_at "nf") => `(tactic| first | refine nfS (δ' := [_, _, _, _, _, _, _, _, _, _, _, _]) rfl ?_ | refine nfE (δ' := [_, _, _, _, _, _, _, _, _, _, _, _]) rfl ?_ | refine nfT (δ' := [_, _, _, _, _, _, _, _, _, _, _, _]) rfl ?_ | refine nfTs (δ' := [_, _, _, _, _, _, _, _, _, _, _, _]) rfl ?_ | refine nfI (δ' := [_, _, _, _, _, _, _, _, _, _, _, _]) rfl ?_ | refine nfG (δ' := [_, _, _, _, _, _, _, _, _, _, _, _]) rfl ?_ | refine nfX (δ' := [_, _, _, _, _, _, _, _, _, _, _, _]) rfl ?_ | refine nfXO (δ' := [_, _, _, _, _, _, _, _, _, _, _, _]) rfl ?_)
theorem fn_is_forced (T : Txt K mg) : FnP P w K mg base "is_forced" 3 R_is_forced := by
  have F1 : FnP P w K mg base "above" 2 R_above := fn_above T
  refine fn_pure T.d_is_forced sc_is_forced (fun _ _ _ _ _ _ us hl => match us, hl with | [_, _, _, _, _, _, _], _ => rfl) (fun ds r ⟨_, _, _, _, _, _, _, _, h, _⟩ => by rw [h]; rfl) ?_
  rintro ds r ⟨n, m, ps, s, v, kf, kg, does, rfl, hn, hp, rfl⟩ f cdv A outer s0 H E hr
  have nd := sc_is_forced.nd
  walk_at "w"
  refine ⟨_, ⟨n, m, s, kf, rfl, hn, rfl⟩, ?_⟩
  walk_at "w"
  refine ⟨_, ⟨n, m, s, kg, rfl, hn, rfl⟩, ?_⟩
  have eI : isForced n ps s v kf kg does = (ps.any (forcedBy (above s kf n) (above s kg n) v does) || markBy (above s kg n) v does false kf || markBy (above s kf n) v does true kg) := rfl
  rw [eI]
  generalize above s kf n = xs
  generalize above s kg n = ys
  walk_at "nf"
  refine sd_for (is := [9]) PassesOwn.never rfl (pwi_tup ?_)
  walk_at "w"
  refine ⟨Sen, ps, senD, fun i δ' => (∀ (j : Nat) (y : Sen), j < i → ps[j]? = some y → forcedBy xs ys v does y = false) ∧ ∃ c9 c10 c11, δ' = [.im (sigD n m), .im (sensD ps), .im (.tab s), .im (.int v), .im (kindD kf), .im (kindD kg), .im (.bl does), .im (intsD xs), .im (intsD ys), c9, c10, c11], rfl, ⟨fun j y h => absurd h (Nat.not_lt_zero _), _, _, _, rfl⟩, ?_, ?_⟩
  · rintro i x δ' hx ⟨hno, c9, c10, c11, rfl⟩
    dsimp only
    have stay : ∀ {c10 c11 : Cell}, forcedBy xs ys v does x = false → (∀ (j : Nat) (y : Sen), j < i + 1 → ps[j]? = some y → forcedBy xs ys v does y = false) ∧ ∃ c9 c10' c11', [Cell.im (sigD n m), .im (sensD ps), .im (.tab s), .im (.int v), .im (kindD kf), .im (kindD kg), .im (.bl does), .im (intsD xs), .im (intsD ys), .im (senD x), c10, c11] = [.im (sigD n m), .im (sensD ps), .im (.tab s), .im (.int v), .im (kindD kf), .im (kindD kg), .im (.bl does), .im (intsD xs), .im (intsD ys), c9, c10', c11'] := fun h =>
      ⟨fun j y hj hy => by
        rcases Nat.lt_succ_iff_lt_or_eq.mp hj with hj | hj
        · exact hno j y hj hy
        · subst hj; rw [hx] at hy; cases hy; exact h, _, _, _, rfl⟩
    have done : forcedBy xs ys v does x = true → (D.bl true) = .bl (ps.any (forcedBy xs ys v does) || markBy ys v does false kf || markBy xs v does true kg) := fun h => by
      have : ps.any (forcedBy xs ys v does) = true := List.any_eq_true.mpr ⟨x, List.mem_of_getElem? hx, h⟩
      rw [this]; rfl
    refine pwg_nm nd rfl (by walk_at "v") ?_
    cases x with
    | verb q x d v' b p y =>
      cases q
      · walk_at "nf"
        refine sd_if (pwt_w (pww_and (pwt_eqD hr.units ?_)))
        walk_at "w"
        exact stay rfl
      · cases p
        · walk_at "nf"
          refine sd_if (pwt_w (pww_and (pwt_eqD hr.units ?_)))
          walk_at "w"
          refine ⟨fun h1 => ?_, fun h1 => ?_⟩
          · walk_at "w"
            refine ⟨fun h2 => ?_, fun h2 => ?_⟩
            · walk_at "w"
              exact stay rfl
            · walk_at "w"
              exact stay rfl
          · walk_at "w"
            exact stay rfl
        · walk_at "nf"
          refine sd_if (pwt_w (pww_and (pwt_eqD hr.units ?_)))
          walk_at "w"
          refine ⟨fun h1 => ?_, fun h1 => ?_⟩
          · have e1 := of_decide_eq_true h1
            subst e1
            walk_at "w"
            refine ⟨fun h2 => ?_, fun h2 => ?_⟩
            · have e2 := of_decide_eq_true h2
              subst e2
              cases b
              · walk_at "w"
                refine sd_asg (is := [10, 11]) ?_
                walk_at "w"
                refine pwg_pair nd rfl rfl rfl (by walk_at "v") (by walk_at "v") ?_
                walk_at "nf"
                refine sd_if (pwt_w (pww_and (pwt_inI ?_)))
                walk_at "w"
                refine ⟨fun h3 => ?_, fun h3 => ?_⟩
                · refine pww_and1 (pwt_inI ?_)
                  walk_at "w"
                  refine ⟨fun h4 => ?_, fun h4 => ?_⟩
                  · walk_at "w"
                    exact done (by simp [forcedBy, of_decide_eq_true h3, of_decide_eq_true h4])
                  · walk_at "w"
                    exact stay (by simp [forcedBy, of_decide_eq_false h4])
                · walk_at "w"
                  exact stay (by simp [forcedBy, of_decide_eq_false h3])
              · walk_at "w"
                refine sd_asg (is := [10, 11]) ?_
                walk_at "w"
                refine pwg_pair nd rfl rfl rfl (by walk_at "v") (by walk_at "v") ?_
                walk_at "nf"
                refine sd_if (pwt_w (pww_and (pwt_inI ?_)))
                walk_at "w"
                refine ⟨fun h3 => ?_, fun h3 => ?_⟩
                · refine pww_and1 (pwt_inI ?_)
                  walk_at "w"
                  refine ⟨fun h4 => ?_, fun h4 => ?_⟩
                  · walk_at "w"
                    exact done (by simp [forcedBy, of_decide_eq_true h3, of_decide_eq_true h4])
                  · walk_at "w"
                    exact stay (by simp [forcedBy, of_decide_eq_false h4])
                · walk_at "w"
                  exact stay (by simp [forcedBy, of_decide_eq_false h3])
            · walk_at "w"
              exact stay (by simp [forcedBy, of_decide_eq_false h2])
          · walk_at "w"
            exact stay (by simp [forcedBy, of_decide_eq_false h1])
    | self q x d v' =>
      cases q
      all_goals
        walk_at "nf"
        refine sd_if (pwt_w (pww_and (pwt_eqD hr.units ?_)))
        walk_at "w"
        exact stay rfl
    | _ =>
      walk_at "nf"
      refine sd_if (pwt_w (pww_and (pwt_eqD hr.units ?_)))
      walk_at "w"
      exact stay rfl
  · rintro δ' ⟨hno, c9, c10, c11, rfl⟩
    have h0 : ps.any (forcedBy xs ys v does) = false := by
      rw [List.any_eq_false]
      intro x hx
      obtain ⟨j, hj⟩ := List.mem_iff_getElem?.mp hx
      rw [hno j x (List.getElem?_eq_some_iff.mp hj).1 hj]
      exact Bool.false_ne_true
    rw [h0, Bool.false_or]
    have last : ∀ b1 : Bool, b1 = false → Sd (fx P w K mg base ["signature", "premises", "sub", "verb", "first", "second", "does", "ones", "others", "sentence", "x", "y"] "is_forced" (defScope s_is_forced) f cdv A outer s0 H E) ((defBody s_is_forced).drop 4)
        [.im (sigD n m), .im (sensD ps), .im (.tab s), .im (.int v), .im (kindD kf), .im (kindD kg), .im (.bl does), .im (intsD xs), .im (intsD ys), c9, c10, c11] (fun _ => D.bl (b1 || markBy xs v does true kg) = .non) (fun d _ => d = .bl (b1 || markBy xs v does true kg)) := by
      intro b1 hb1
      rw [hb1, Bool.false_or]
      cases kg with
      | mark x d v' b y =>
        walk_at "w"
        refine ⟨fun h => ?_, fun h => ?_⟩
        · have h' := (eqD_3 d does v' v b true).symm.trans h
          refine AL.pw_one (pw_inI ?_)
          walk_at "w"
          show D.bl (decide (y ∈ xs)) = D.bl ((decide (d = does) && decide (v' = v) && decide (b = true)) && decide (y ∈ xs))
          rw [h']; rfl
        · have h' := (eqD_3 d does v' v b true).symm.trans h
          show D.bl false = D.bl ((decide (d = does) && decide (v' = v) && decide (b = true)) && decide (y ∈ xs))
          rw [h']; rfl
      | _ => walk_at "w"
    cases kf with
    | mark x d v' b y =>
      have em : markBy ys v does false (.mark x d v' b y) = ((decide (d = does) && decide (v' = v) && decide (b = false)) && decide (y ∈ ys)) := rfl
      refine sd_if (pwt_w ?_)
      walk_at "w"
      refine ⟨fun h => ?_, fun h => ?_⟩
      · have h' := (eqD_3 d does v' v b false).symm.trans h
        refine pww_and1 (pwt_inI ?_)
        walk_at "w"
        refine ⟨fun h2 => ?_, fun h2 => ?_⟩
        · walk_at "w"
          rw [em, h', h2]; rfl
        · refine sd_nil ?_
          refine last _ ?_
          rw [em, h', h2]; rfl
      · have h' := (eqD_3 d does v' v b false).symm.trans h
        refine br_f rfl ?_
        refine sd_nil ?_
        refine last _ ?_
        rw [em, h']; rfl
    | _ =>
      refine sd_ifK (last _ rfl) ?_
      walk_at "w"
end
end AL
namespace AL
open PySem PySem.Spec PyProof.Rows L2 Mi
local macro_rules | `(tactic| walk_at "v") => `(tactic| first | exact Or.inl rfl | exact Or.inr rfl | exact Or.inr (Or.inl rfl) | exact Or.inr (Or.inr rfl))
local macro_rules | `(tactic| walk_at "we") => `(tactic| first
  | refine pw_nm rfl (by walk_at "v") rfl ?_
  | refine pw_int ?_
  | refine pw_str ?_
  | refine pw_bl ?_
  | (refine gEcmp ?_; walk_at "wc")
  | refine pw_ix ?_
  | (refine gEcall ?_; walk_at "wf")
  | refine pw_tup ?_
  | refine AL.pw_and ?_
  | refine AL.pw_or ?_
  | refine AL.pw_one ?_
  | refine AL.pw_not ?_
  | (refine gEbin ?_; walk_at "wb")
  | refine pw_slice ?_
  | refine pw_lst ?_
  | refine pw_ife ?_
  | refine pw_neg ?_
  | refine pw_non ?_
  | refine pw_gint rfl (Txt.c_MOST_NOUNS (by assumption)) ?_
  | refine pw_gint rfl (Txt.c_MOST_VERBS (by assumption)) ?_
  | refine pw_gint rfl (Txt.c_MOST_PREMISES (by assumption)) ?_
  | refine pw_gint rfl (Txt.c_MOST_SPEAKER (by assumption)) ?_
  | refine pw_gint rfl (Txt.c_MOST_ASSERTIONS (by assumption)) ?_
  | refine pw_gint rfl (Txt.c_MOST_COMMANDS (by assumption)) ?_
  )
local macro_rules | `(tactic| walk_at "wc") => `(tactic| first
  | refine pw_eqS (by assumption) ?_
  | refine pw_eq ?_
  | refine pw_ne ?_
  | refine pw_chainLe ?_
  | refine pw_lt ?_
  | refine pw_le ?_
  | refine pw_gt ?_
  | refine pw_ge ?_
  | refine pw_inG (Txt.c_TWO_NOUNS (by assumption)) rfl ?_
  | refine pw_inG (Txt.c_QUANTITIES (by assumption)) rfl ?_
  )
local macro_rules | `(tactic| walk_at "wf") => `(tactic| first
  | refine pw_len (Txt.b_len (by assumption)) ?_
  | refine pw_isi_int (Txt.b_isinstance (by assumption)) (Txt.b_int (by assumption)) ?_
  | refine pw_isi_bool (Txt.b_isinstance (by assumption)) (Txt.b_bool (by assumption)) ?_
  | refine pw_isi_str (Txt.b_isinstance (by assumption)) (Txt.b_str (by assumption)) ?_
  | refine pw_isi_tuple (Txt.b_isinstance (by assumption)) (Txt.b_tuple (by assumption)) ?_
  | refine pw_isi_list (Txt.b_isinstance (by assumption)) (Txt.b_list (by assumption)) ?_
  | refine pw_tuple (Txt.b_tuple (by assumption)) ?_
  | refine pw_any rfl (Txt.b_any (by assumption)) ?_
  | refine pw_all rfl (Txt.b_all (by assumption)) ?_
  | refine pw_sum rfl (Txt.b_sum (by assumption)) ?_
  | refine pw_min2 rfl (Txt.b_min (by assumption)) ?_
  | refine pw_max2 rfl (Txt.b_max (by assumption)) ?_
  | refine pw_toInt (Txt.b_int (by assumption)) ?_
  | refine pw_call (by assumption) (by assumption) (by decide) rfl ?_
  )
local macro_rules | `(tactic| walk_at "wb") => `(tactic| first
  | refine pw_add ?_
  | refine pw_sub ?_
  | refine pw_mul ?_
  | refine pw_fdiv ?_
  | refine pw_mod ?_
  )
local macro_rules | `(tactic| walk_at "wt") => `(tactic| first
  | (refine gTcmp ?_; walk_at "wd")
  | refine pwt_w ?_
  | refine pwt_not ?_
  | refine pwt_tru (fun _ => rfl) ?_
  )
local macro_rules | `(tactic| walk_at "wd") => `(tactic| first
  | refine pwt_eqS (by assumption) ?_
  | refine pwt_eq ?_
  | refine pwt_ne ?_
  | refine pwt_lt ?_
  | refine pwt_le ?_
  | refine pwt_gt ?_
  | refine pwt_ge ?_
  | refine pwt_inG (Txt.c_TWO_NOUNS (by assumption)) rfl ?_
  | refine pwt_inG (Txt.c_QUANTITIES (by assumption)) rfl ?_
  | refine pwt_inTup ?_
  | refine pwt_inLst ?_
  )
local macro_rules | `(tactic| walk_at "wl") => `(tactic| first
  | refine br_t rfl ?_
  | refine br_f rfl ?_
  | refine rb_t rfl ?_
  | refine rb_f rfl ?_
  | refine ⟨_, rfl, ?_⟩
  | refine ⟨_, _, rfl, rfl, ?_⟩
  | refine ⟨_, _, rfl, ?_⟩
  | refine ⟨rfl, ?_⟩
  | refine ⟨dp_ok _ rfl rfl, ?_⟩
  | refine ⟨_, _, _, rfl, rfl, rfl, ?_⟩
  | refine ⟨le_line (Nat.le_of_ble_eq_true rfl), ?_⟩
  | refine ⟨_, _, _, rfl, rfl, ?_⟩
  | exact rfl
  )
local macro_rules | `(tactic| walk_at "w1") => `(tactic| first
  | (refine gE ?_; walk_at "we")
  | (refine gT ?_; walk_at "wt")
  | (refine gA ?_; first | refine pwa_cons ?_ | refine pwa_nil ?_)
  | (refine gW ?_; first | refine pww_and ?_ | refine pww_or ?_ | refine pww_and1 ?_ | refine pww_or1 ?_)
  | (refine gS ?_; walk_at "nf"; first | refine sd_ret ?_ | refine sd_if ?_ | refine sd_newLN (by assumption) rfl (by walk_at "v") (Nat.le_of_ble_eq_true rfl) ?_ | refine sd_setN (by assumption) rfl (by walk_at "v") ?_ | refine sd_appendN rfl rfl (by walk_at "v") ?_ | refine sd_nil ?_)
  | (refine gP ?_; first | refine pwp_none ?_ | refine pwp_some ?_)
  | walk_at "wl"
  )
local macro_rules | `(tactic| walk_at "w") => `(tactic| repeat walk_at "w1")

section
variable {P : Program} {w : World} {K : PySem.W.Frag} {mg : Str → Option Value} {base : Heap}
def R_is_forced_self : List D → D → Prop := fun ds r => ∃ (n m : Nat) (ps : List Sen) (s : Tab) (v : Int) (k : Kd) (does : Bool), ds = [sigD n m, sensD ps, .tab s, .int v, kindD k, .bl does] ∧ n ≤ 4 ∧ ps.length ≤ 8 ∧ r = .bl (isForcedSelf n ps s v k does)
local macro_rules | `(tactic| walk_at "nf") => `(tactic| first | refine nfS (δ' := [_, _, _, _, _, _, _, _]) rfl ?_ | refine nfE (δ' := [_, _, _, _, _, _, _, _]) rfl ?_ | refine nfT (δ' := [_, _, _, _, _, _, _, _]) rfl ?_ | refine nfTs (δ' := [_, _, _, _, _, _, _, _]) rfl ?_ | refine nfI (δ' := [_, _, _, _, _, _, _, _]) rfl ?_ | refine nfG (δ' := [_, _, _, _, _, _, _, _]) rfl ?_ | refine nfX (δ' := [_, _, _, _, _, _, _, _]) rfl ?_ | refine nfXO (δ' := [_, _, _, _, _, _, _, _]) rfl ?_)
theorem fn_is_forced_self (T : Txt K mg) : FnP P w K mg base "is_forced_self" 4 R_is_forced_self := by
  have F1 : FnP P w K mg base "above" 2 R_above := fn_above T
  have F2 : FnP P w K mg base "is_forced" 3 R_is_forced := fn_is_forced T
  refine fn_pure T.d_is_forced_self sc_is_forced_self (fun _ _ _ _ _ _ us hl => match us, hl with | [_, _, _, _, _, _], _ => rfl) (fun ds r ⟨_, _, _, _, _, _, _, h, _⟩ => by rw [h]; rfl) ?_
  rintro ds r ⟨n, m, ps, s, v, k, does, rfl, hn, hp, rfl⟩ f cdv A outer s0 H E hr
  have nd := sc_is_forced_self.nd
  have eI : isForcedSelf n ps s v k does = (isForced n ps s v k k does || ps.any (selfBy (above s k n) v does) || selfKind v does k) := rfl
  rw [eI]
  walk_at "nf"
  refine sd_if (pwt_val (fun _ => rfl) ?_)
  walk_at "w"
  refine ⟨_, ⟨n, m, ps, s, v, k, k, does, rfl, hn, hp, rfl⟩, _, rfl, fun h => ?_, fun h => ?_⟩
  · walk_at "w"
    rw [h]; rfl
  rw [h, Bool.false_or]
  walk_at "w"
  refine ⟨_, ⟨n, m, s, k, rfl, hn, rfl⟩, ?_⟩
  generalize above s k n = xs
  walk_at "nf"
  refine sd_for (is := [7]) PassesOwn.never rfl (pwi_tup ?_)
  walk_at "w"
  refine ⟨Sen, ps, senD, fun i δ' => (∀ (j : Nat) (y : Sen), j < i → ps[j]? = some y → selfBy xs v does y = false) ∧ ∃ c7, δ' = [.im (sigD n m), .im (sensD ps), .im (.tab s), .im (.int v), .im (kindD k), .im (.bl does), .im (intsD xs), c7], rfl, ⟨fun j y h => absurd h (Nat.not_lt_zero _), _, rfl⟩, ?_, ?_⟩
  · rintro i x δ' hx ⟨hno, c7, rfl⟩
    dsimp only
    have stay : selfBy xs v does x = false → (∀ (j : Nat) (y : Sen), j < i + 1 → ps[j]? = some y → selfBy xs v does y = false) ∧ ∃ c7, [Cell.im (sigD n m), .im (sensD ps), .im (.tab s), .im (.int v), .im (kindD k), .im (.bl does), .im (intsD xs), .im (senD x)] = [.im (sigD n m), .im (sensD ps), .im (.tab s), .im (.int v), .im (kindD k), .im (.bl does), .im (intsD xs), c7] := fun h =>
      ⟨fun j y hj hy => by
        rcases Nat.lt_succ_iff_lt_or_eq.mp hj with hj | hj
        · exact hno j y hj hy
        · subst hj; rw [hx] at hy; cases hy; exact h, _, rfl⟩
    have done : selfBy xs v does x = true → (D.bl true) = .bl (ps.any (selfBy xs v does) || selfKind v does k) := fun h => by
      have : ps.any (selfBy xs v does) = true := List.any_eq_true.mpr ⟨x, List.mem_of_getElem? hx, h⟩
      rw [this]; rfl
    refine pwg_nm nd rfl (by walk_at "v") ?_
    cases x with
    | self q x d v' =>
      cases q
      · walk_at "w"
        exact stay rfl
      · walk_at "nf"
        refine sd_if (pwt_w ?_)
        walk_at "w"
        refine ⟨fun h1 => ?_, fun h1 => ?_⟩
        · walk_at "w"
          refine ⟨fun h2 => ?_, fun h2 => ?_⟩
          · refine pww_and1 (pwt_inI ?_)
            walk_at "w"
            refine ⟨fun h3 => ?_, fun h3 => ?_⟩
            · walk_at "w"
              exact done (by simp [selfBy, of_decide_eq_true h1, of_decide_eq_true h2, of_decide_eq_true h3])
            · walk_at "w"
              exact stay (by simp [selfBy, of_decide_eq_false h3])
          · walk_at "w"
            exact stay (by simp [selfBy, of_decide_eq_false h2])
        · walk_at "w"
          exact stay (by simp [selfBy, of_decide_eq_false h1])
    | verb q x d v' b p y =>
      cases q
      all_goals
        walk_at "w"
        exact stay rfl
    | _ =>
      walk_at "w"
      exact stay rfl
  · rintro δ' ⟨hno, c7, rfl⟩
    have h0 : ps.any (selfBy xs v does) = false := by
      rw [List.any_eq_false]
      intro x hx
      obtain ⟨j, hj⟩ := List.mem_iff_getElem?.mp hx
      rw [hno j x (List.getElem?_eq_some_iff.mp hj).1 hj]
      exact Bool.false_ne_true
    rw [h0, Bool.false_or]
    cases k with
    | self x d v' =>
      walk_at "w"
      exact congrArg D.bl (eqD_2 d does v' v)
    | _ => walk_at "w"
def R_word_of : List D → D → Prop := fun ds r => ∃ y n : Bool, ds = [.bl y, .bl n] ∧ r = wdD (wordOf y n)
local macro_rules | `(tactic| walk_at "nf") => `(tactic| first | refine nfS (δ' := [_, _]) rfl ?_ | refine nfE (δ' := [_, _]) rfl ?_ | refine nfT (δ' := [_, _]) rfl ?_ | refine nfTs (δ' := [_, _]) rfl ?_ | refine nfI (δ' := [_, _]) rfl ?_ | refine nfG (δ' := [_, _]) rfl ?_ | refine nfX (δ' := [_, _]) rfl ?_ | refine nfXO (δ' := [_, _]) rfl ?_)
theorem fn_word_of (T : Txt K mg) : FnP P w K mg base "word_of" 1 R_word_of := by
  refine fn_pure T.d_word_of sc_word_of (fun _ _ _ _ _ _ us hl => match us, hl with | [_, _], _ => rfl) (fun ds r ⟨_, _, h, _⟩ => by rw [h]; rfl) ?_
  rintro ds r ⟨y, n, rfl, rfl⟩ f cdv A outer s0 H E hr
  cases y <;> cases n <;> walk_at "w"
end
end AL
namespace AL
open PySem PySem.Spec PyProof.Rows L2 Mi
local macro_rules | `(tactic| walk_at "v") => `(tactic| first | exact Or.inl rfl | exact Or.inr rfl | exact Or.inr (Or.inl rfl) | exact Or.inr (Or.inr rfl))
local macro_rules | `(tactic| walk_at "we") => `(tactic| first
  | refine pw_nm rfl (by walk_at "v") rfl ?_
  | refine pw_int ?_
  | refine pw_str ?_
  | refine pw_bl ?_
  | (refine gEcmp ?_; walk_at "wc")
  | refine pw_ix ?_
  | (refine gEcall ?_; walk_at "wf")
  | refine pw_tup ?_
  | refine AL.pw_and ?_
  | refine AL.pw_or ?_
  | refine AL.pw_one ?_
  | refine AL.pw_not ?_
  | (refine gEbin ?_; walk_at "wb")
  | refine pw_slice ?_
  | refine pw_lst ?_
  | refine pw_ife ?_
  | refine pw_neg ?_
  | refine pw_non ?_
  | refine pw_gint rfl (Txt.c_MOST_NOUNS (by assumption)) ?_
  | refine pw_gint rfl (Txt.c_MOST_VERBS (by assumption)) ?_
  | refine pw_gint rfl (Txt.c_MOST_PREMISES (by assumption)) ?_
  | refine pw_gint rfl (Txt.c_MOST_SPEAKER (by assumption)) ?_
  | refine pw_gint rfl (Txt.c_MOST_ASSERTIONS (by assumption)) ?_
  | refine pw_gint rfl (Txt.c_MOST_COMMANDS (by assumption)) ?_
  )
local macro_rules | `(tactic| walk_at "wc") => `(tactic| first
  | refine pw_eqS (by assumption) ?_
  | refine pw_eq ?_
  | refine pw_ne ?_
  | refine pw_chainLe ?_
  | refine pw_lt ?_
  | refine pw_le ?_
  | refine pw_gt ?_
  | refine pw_ge ?_
  | refine pw_inG (Txt.c_TWO_NOUNS (by assumption)) rfl ?_
  | refine pw_inG (Txt.c_QUANTITIES (by assumption)) rfl ?_
  )
local macro_rules | `(tactic| walk_at "wf") => `(tactic| first
  | refine pw_len (Txt.b_len (by assumption)) ?_
  | refine pw_isi_int (Txt.b_isinstance (by assumption)) (Txt.b_int (by assumption)) ?_
  | refine pw_isi_bool (Txt.b_isinstance (by assumption)) (Txt.b_bool (by assumption)) ?_
  | refine pw_isi_str (Txt.b_isinstance (by assumption)) (Txt.b_str (by assumption)) ?_
  | refine pw_isi_tuple (Txt.b_isinstance (by assumption)) (Txt.b_tuple (by assumption)) ?_
  | refine pw_isi_list (Txt.b_isinstance (by assumption)) (Txt.b_list (by assumption)) ?_
  | refine pw_tuple (Txt.b_tuple (by assumption)) ?_
  | refine pw_any rfl (Txt.b_any (by assumption)) ?_
  | refine pw_all rfl (Txt.b_all (by assumption)) ?_
  | refine pw_sum rfl (Txt.b_sum (by assumption)) ?_
  | refine pw_min2 rfl (Txt.b_min (by assumption)) ?_
  | refine pw_max2 rfl (Txt.b_max (by assumption)) ?_
  | refine pw_toInt (Txt.b_int (by assumption)) ?_
  | refine pw_call (by assumption) (by assumption) (by decide) rfl ?_
  )
local macro_rules | `(tactic| walk_at "wb") => `(tactic| first
  | refine pw_add ?_
  | refine pw_sub ?_
  | refine pw_mul ?_
  | refine pw_fdiv ?_
  | refine pw_mod ?_
  )
local macro_rules | `(tactic| walk_at "wt") => `(tactic| first
  | (refine gTcmp ?_; walk_at "wd")
  | refine pwt_w ?_
  | refine pwt_not ?_
  | refine pwt_tru (fun _ => rfl) ?_
  )
local macro_rules | `(tactic| walk_at "wd") => `(tactic| first
  | refine pwt_eqS (by assumption) ?_
  | refine pwt_eq ?_
  | refine pwt_ne ?_
  | refine pwt_lt ?_
  | refine pwt_le ?_
  | refine pwt_gt ?_
  | refine pwt_ge ?_
  | refine pwt_inG (Txt.c_TWO_NOUNS (by assumption)) rfl ?_
  | refine pwt_inG (Txt.c_QUANTITIES (by assumption)) rfl ?_
  | refine pwt_inTup ?_
  | refine pwt_inLst ?_
  )
local macro_rules | `(tactic| walk_at "wl") => `(tactic| first
  | refine br_t rfl ?_
  | refine br_f rfl ?_
  | refine rb_t rfl ?_
  | refine rb_f rfl ?_
  | refine ⟨_, rfl, ?_⟩
  | refine ⟨_, _, rfl, rfl, ?_⟩
  | refine ⟨_, _, rfl, ?_⟩
  | refine ⟨rfl, ?_⟩
  | refine ⟨dp_ok _ rfl rfl, ?_⟩
  | refine ⟨_, _, _, rfl, rfl, rfl, ?_⟩
  | refine ⟨le_line (Nat.le_of_ble_eq_true rfl), ?_⟩
  | refine ⟨_, _, _, rfl, rfl, ?_⟩
  | exact rfl
  )
local macro_rules | `(tactic| walk_at "w1") => `(tactic| first
  | (refine gE ?_; walk_at "we")
  | (refine gT ?_; walk_at "wt")
  | (refine gA ?_; first | refine pwa_cons ?_ | refine pwa_nil ?_)
  | (refine gW ?_; first | refine pww_and ?_ | refine pww_or ?_ | refine pww_and1 ?_ | refine pww_or1 ?_)
  | (refine gS ?_; walk_at "nf"; first | refine sd_ret ?_ | refine sd_if ?_ | refine sd_newLN (by assumption) rfl (by walk_at "v") (Nat.le_of_ble_eq_true rfl) ?_ | refine sd_setN (by assumption) rfl (by walk_at "v") ?_ | refine sd_appendN rfl rfl (by walk_at "v") ?_ | refine sd_nil ?_)
  | (refine gP ?_; first | refine pwp_none ?_ | refine pwp_some ?_)
  | walk_at "wl"
  )
local macro_rules | `(tactic| walk_at "w") => `(tactic| repeat walk_at "w1")

section
variable {P : Program} {w : World} {K : PySem.W.Frag} {mg : Str → Option Value} {base : Heap}
def R_forced : List D → D → Prop := fun ds r => ∃ (n m : Nat) (ps : List Sen) (s : Tab) (v : Int) (f g : Kd), ds = [sigD n m, sensD ps, .tab s, .int v, kindD f, kindD g] ∧ n ≤ 4 ∧ ps.length ≤ 8 ∧ r = wdD (forced n ps s v f g)
local macro_rules | `(tactic| walk_at "nf") => `(tactic| first | refine nfS (δ' := [_, _, _, _, _, _, _, _]) rfl ?_ | refine nfE (δ' := [_, _, _, _, _, _, _, _]) rfl ?_ | refine nfT (δ' := [_, _, _, _, _, _, _, _]) rfl ?_ | refine nfTs (δ' := [_, _, _, _, _, _, _, _]) rfl ?_ | refine nfI (δ' := [_, _, _, _, _, _, _, _]) rfl ?_ | refine nfG (δ' := [_, _, _, _, _, _, _, _]) rfl ?_ | refine nfX (δ' := [_, _, _, _, _, _, _, _]) rfl ?_ | refine nfXO (δ' := [_, _, _, _, _, _, _, _]) rfl ?_)
theorem fn_forced (T : Txt K mg) : FnP P w K mg base "forced" 4 R_forced := by
  have F1 : FnP P w K mg base "is_forced" 3 R_is_forced := fn_is_forced T
  have F2 : FnP P w K mg base "word_of" 1 R_word_of := fn_word_of T
  refine fn_pure T.d_forced sc_forced (fun _ _ _ _ _ _ us hl => match us, hl with | [_, _, _, _, _, _], _ => rfl) (fun ds r ⟨_, _, _, _, _, _, _, h, _⟩ => by rw [h]; rfl) ?_
  rintro ds r ⟨n, m, ps, s, v, kf, kg, rfl, hn, hp, rfl⟩ f cdv A outer s0 H E hr
  have nd := sc_forced.nd
  walk_at "nf"
  refine sd_setLc rfl nd (blk_of (own := [("does", 7)]) sc_forced rfl rfl (by decide +kernel)) (i := 6) rfl (lcxM (pwi_tup ?_))
  walk_at "w"
  refine ⟨Bool, [true, false], D.bl, fun b => .bl (isForced n ps s v kf kg b), [7], rfl, by decide, ?_, ?_⟩
  · intro x hx _ _ _ _ _
    refine pwg_nm nd rfl (by walk_at "v") ?_
    intro _ _ _ _ _; walk_at "nf"
    walk_at "w"
    refine ⟨_, ⟨n, m, ps, s, v, kf, kg, x, rfl, hn, hp, rfl⟩, rfl⟩
  · walk_at "w"
    refine ⟨_, ⟨_, _, rfl, rfl⟩, ?_⟩
    rfl
def R_forced_self : List D → D → Prop := fun ds r => ∃ (n m : Nat) (ps : List Sen) (s : Tab) (v : Int) (k : Kd), ds = [sigD n m, sensD ps, .tab s, .int v, kindD k] ∧ n ≤ 4 ∧ ps.length ≤ 8 ∧ r = wdD (forcedSelf n ps s v k)
local macro_rules | `(tactic| walk_at "nf") => `(tactic| first | refine nfS (δ' := [_, _, _, _, _, _, _]) rfl ?_ | refine nfE (δ' := [_, _, _, _, _, _, _]) rfl ?_ | refine nfT (δ' := [_, _, _, _, _, _, _]) rfl ?_ | refine nfTs (δ' := [_, _, _, _, _, _, _]) rfl ?_ | refine nfI (δ' := [_, _, _, _, _, _, _]) rfl ?_ | refine nfG (δ' := [_, _, _, _, _, _, _]) rfl ?_ | refine nfX (δ' := [_, _, _, _, _, _, _]) rfl ?_ | refine nfXO (δ' := [_, _, _, _, _, _, _]) rfl ?_)
theorem fn_forced_self (T : Txt K mg) : FnP P w K mg base "forced_self" 5 R_forced_self := by
  have F1 : FnP P w K mg base "is_forced_self" 4 R_is_forced_self := fn_is_forced_self T
  have F2 : FnP P w K mg base "word_of" 1 R_word_of := fn_word_of T
  refine fn_pure T.d_forced_self sc_forced_self (fun _ _ _ _ _ _ us hl => match us, hl with | [_, _, _, _, _], _ => rfl) (fun ds r ⟨_, _, _, _, _, _, h, _⟩ => by rw [h]; rfl) ?_
  rintro ds r ⟨n, m, ps, s, v, k, rfl, hn, hp, rfl⟩ f cdv A outer s0 H E hr
  have nd := sc_forced_self.nd
  walk_at "nf"
  refine sd_setLc rfl nd (blk_of (own := [("does", 6)]) sc_forced_self rfl rfl (by decide +kernel)) (i := 5) rfl (lcxM (pwi_tup ?_))
  walk_at "w"
  refine ⟨Bool, [true, false], D.bl, fun b => .bl (isForcedSelf n ps s v k b), [6], rfl, by decide, ?_, ?_⟩
  · intro x hx _ _ _ _ _
    refine pwg_nm nd rfl (by walk_at "v") ?_
    intro _ _ _ _ _; walk_at "nf"
    walk_at "w"
    refine ⟨_, ⟨n, m, ps, s, v, k, x, rfl, hn, hp, rfl⟩, rfl⟩
  · walk_at "w"
    refine ⟨_, ⟨_, _, rfl, rfl⟩, ?_⟩
    rfl
def R_contrary : List D → D → Prop := fun ds r => ∃ (n m : Nat) (ps : List Sen) (s : Tab) (q : Bool) (a : Int) (d : Bool) (v : Int) (b p : Bool) (y : Int) (k : Kd), ds = [sigD n m, sensD ps, .tab s, senD (.verb q a d v b p y), kindD k] ∧ n ≤ 4 ∧ ps.length ≤ 8 ∧ r = .bl (contrary n ps s (.verb q a d v b p y) k)
local macro_rules | `(tactic| walk_at "nf") => `(tactic| first | refine nfS (δ' := [_, _, _, _, _, _, _, _, _]) rfl ?_ | refine nfE (δ' := [_, _, _, _, _, _, _, _, _]) rfl ?_ | refine nfT (δ' := [_, _, _, _, _, _, _, _, _]) rfl ?_ | refine nfTs (δ' := [_, _, _, _, _, _, _, _, _]) rfl ?_ | refine nfI (δ' := [_, _, _, _, _, _, _, _, _]) rfl ?_ | refine nfG (δ' := [_, _, _, _, _, _, _, _, _]) rfl ?_ | refine nfX (δ' := [_, _, _, _, _, _, _, _, _]) rfl ?_ | refine nfXO (δ' := [_, _, _, _, _, _, _, _, _]) rfl ?_)
theorem fn_contrary (T : Txt K mg) : FnP P w K mg base "contrary" 4 R_contrary := by
  have F1 : FnP P w K mg base "is_forced" 3 R_is_forced := fn_is_forced T
  refine fn_pure T.d_contrary sc_contrary (fun _ _ _ _ _ _ us hl => match us, hl with | [_, _, _, _, _], _ => rfl) (fun ds r ⟨_, _, _, _, _, _, _, _, _, _, _, _, h, _⟩ => by rw [h]; rfl) ?_
  rintro ds r ⟨n, m, ps, s, q, a, d, v, b, p, y, k, rfl, hn, hp, rfl⟩ f cdv A outer s0 H E hr
  have nd := sc_contrary.nd
  walk_at "nf"
  refine sd_asg (is := [5, 6, 7]) ?_
  walk_at "w"
  refine pwg_tup rfl rfl ?_
  refine pwgs_cons (is := [5]) (js := [6, 7]) (pwg_nm nd rfl (by walk_at "v") ?_)
  refine pwgs_cons (is := [6]) (js := [7]) (pwg_nm nd rfl (by walk_at "v") ?_)
  refine pwgs_cons (is := [7]) (js := []) (pwg_nm nd rfl (by walk_at "v") (pwgs_nil ?_))
  cases b
  · walk_at "w"
    exact ⟨_, ⟨n, m, ps, s, v, k, .one y, !d, rfl, hn, hp, rfl⟩, rfl⟩
  · walk_at "w"
    exact ⟨_, ⟨n, m, ps, s, v, .one y, k, !d, rfl, hn, hp, rfl⟩, rfl⟩
end
end AL
namespace AL
open PySem PySem.Spec PyProof.Rows L2 Mi
local macro_rules | `(tactic| walk_at "v") => `(tactic| first | exact Or.inl rfl | exact Or.inr rfl | exact Or.inr (Or.inl rfl) | exact Or.inr (Or.inr rfl))
local macro_rules | `(tactic| walk_at "we") => `(tactic| first
  | refine pw_nm rfl (by walk_at "v") rfl ?_
  | refine pw_int ?_
  | refine pw_str ?_
  | refine pw_bl ?_
  | (refine gEcmp ?_; walk_at "wc")
  | refine pw_ix ?_
  | (refine gEcall ?_; walk_at "wf")
  | refine pw_tup ?_
  | refine AL.pw_and ?_
  | refine AL.pw_or ?_
  | refine AL.pw_one ?_
  | refine AL.pw_not ?_
  | (refine gEbin ?_; walk_at "wb")
  | refine pw_slice ?_
  | refine pw_lst ?_
  | refine pw_ife ?_
  | refine pw_neg ?_
  | refine pw_non ?_
  | refine pw_gint rfl (Txt.c_MOST_NOUNS (by assumption)) ?_
  | refine pw_gint rfl (Txt.c_MOST_VERBS (by assumption)) ?_
  | refine pw_gint rfl (Txt.c_MOST_PREMISES (by assumption)) ?_
  | refine pw_gint rfl (Txt.c_MOST_SPEAKER (by assumption)) ?_
  | refine pw_gint rfl (Txt.c_MOST_ASSERTIONS (by assumption)) ?_
  | refine pw_gint rfl (Txt.c_MOST_COMMANDS (by assumption)) ?_
  )
local macro_rules | `(tactic| walk_at "wc") => `(tactic| first
  | refine pw_eqS (by assumption) ?_
  | refine pw_eq ?_
  | refine pw_ne ?_
  | refine pw_chainLe ?_
  | refine pw_lt ?_
  | refine pw_le ?_
  | refine pw_gt ?_
  | refine pw_ge ?_
  | refine pw_inG (Txt.c_TWO_NOUNS (by assumption)) rfl ?_
  | refine pw_inG (Txt.c_QUANTITIES (by assumption)) rfl ?_
  )
local macro_rules | `(tactic| walk_at "wf") => `(tactic| first
  | refine pw_len (Txt.b_len (by assumption)) ?_
  | refine pw_isi_int (Txt.b_isinstance (by assumption)) (Txt.b_int (by assumption)) ?_
  | refine pw_isi_bool (Txt.b_isinstance (by assumption)) (Txt.b_bool (by assumption)) ?_
  | refine pw_isi_str (Txt.b_isinstance (by assumption)) (Txt.b_str (by assumption)) ?_
  | refine pw_isi_tuple (Txt.b_isinstance (by assumption)) (Txt.b_tuple (by assumption)) ?_
  | refine pw_isi_list (Txt.b_isinstance (by assumption)) (Txt.b_list (by assumption)) ?_
  | refine pw_tuple (Txt.b_tuple (by assumption)) ?_
  | refine pw_any rfl (Txt.b_any (by assumption)) ?_
  | refine pw_all rfl (Txt.b_all (by assumption)) ?_
  | refine pw_sum rfl (Txt.b_sum (by assumption)) ?_
  | refine pw_min2 rfl (Txt.b_min (by assumption)) ?_
  | refine pw_max2 rfl (Txt.b_max (by assumption)) ?_
  | refine pw_toInt (Txt.b_int (by assumption)) ?_
  | refine pw_call (by assumption) (by assumption) (by decide) rfl ?_
  )
local macro_rules | `(tactic| walk_at "wb") => `(tactic| first
  | refine pw_add ?_
  | refine pw_sub ?_
  | refine pw_mul ?_
  | refine pw_fdiv ?_
  | refine pw_mod ?_
  )
local macro_rules | `(tactic| walk_at "wt") => `(tactic| first
  | (refine gTcmp ?_; walk_at "wd")
  | refine pwt_w ?_
  | refine pwt_not ?_
  | refine pwt_tru (fun _ => rfl) ?_
  )
local macro_rules | `(tactic| walk_at "wd") => `(tactic| first
  | refine pwt_eqS (by assumption) ?_
  | refine pwt_eq ?_
  | refine pwt_ne ?_
  | refine pwt_lt ?_
  | refine pwt_le ?_
  | refine pwt_gt ?_
  | refine pwt_ge ?_
  | refine pwt_inG (Txt.c_TWO_NOUNS (by assumption)) rfl ?_
  | refine pwt_inG (Txt.c_QUANTITIES (by assumption)) rfl ?_
  | refine pwt_inTup ?_
  | refine pwt_inLst ?_
  )
local macro_rules | `(tactic| walk_at "wl") => `(tactic| first
  | refine br_t rfl ?_
  | refine br_f rfl ?_
  | refine rb_t rfl ?_
  | refine rb_f rfl ?_
  | refine ⟨_, rfl, ?_⟩
  | refine ⟨_, _, rfl, rfl, ?_⟩
  | refine ⟨_, _, rfl, ?_⟩
  | refine ⟨rfl, ?_⟩
  | refine ⟨dp_ok _ rfl rfl, ?_⟩
  | refine ⟨_, _, _, rfl, rfl, rfl, ?_⟩
  | refine ⟨le_line (Nat.le_of_ble_eq_true rfl), ?_⟩
  | refine ⟨_, _, _, rfl, rfl, ?_⟩
  | exact rfl
  )
local macro_rules | `(tactic| walk_at "w1") => `(tactic| first
  | (refine gE ?_; walk_at "we")
  | (refine gT ?_; walk_at "wt")
  | (refine gA ?_; first | refine pwa_cons ?_ | refine pwa_nil ?_)
  | (refine gW ?_; first | refine pww_and ?_ | refine pww_or ?_ | refine pww_and1 ?_ | refine pww_or1 ?_)
  | (refine gS ?_; walk_at "nf"; first | refine sd_ret ?_ | refine sd_if ?_ | refine sd_newLN (by assumption) rfl (by walk_at "v") (Nat.le_of_ble_eq_true rfl) ?_ | refine sd_setN (by assumption) rfl (by walk_at "v") ?_ | refine sd_appendN rfl rfl (by walk_at "v") ?_ | refine sd_nil ?_)
  | (refine gP ?_; first | refine pwp_none ?_ | refine pwp_some ?_)
  | walk_at "wl"
  )
local macro_rules | `(tactic| walk_at "w") => `(tactic| repeat walk_at "w1")

section
variable {P : Program} {w : World} {K : PySem.W.Frag} {mg : Str → Option Value} {base : Heap}
def R_is_contradicted : List D → D → Prop := fun ds r => ∃ (n m : Nat) (ps : List Sen) (s t : Tab) (ks : List Kd) (x : Sen), ds = [sigD n m, sensD ps, senD x, .tup [.tab s, .tab t, .tab s], .lst (ks.map kindD)] ∧ n ≤ 4 ∧ ps.length ≤ 8 ∧ r = .bl (isContradicted n ps s t ks x)
local macro_rules | `(tactic| walk_at "nf") => `(tactic| first | refine nfS (δ' := [_, _, _, _, _, _, _, _, _, _, _, _, _]) rfl ?_ | refine nfE (δ' := [_, _, _, _, _, _, _, _, _, _, _, _, _]) rfl ?_ | refine nfT (δ' := [_, _, _, _, _, _, _, _, _, _, _, _, _]) rfl ?_ | refine nfTs (δ' := [_, _, _, _, _, _, _, _, _, _, _, _, _]) rfl ?_ | refine nfI (δ' := [_, _, _, _, _, _, _, _, _, _, _, _, _]) rfl ?_ | refine nfG (δ' := [_, _, _, _, _, _, _, _, _, _, _, _, _]) rfl ?_ | refine nfX (δ' := [_, _, _, _, _, _, _, _, _, _, _, _, _]) rfl ?_ | refine nfXO (δ' := [_, _, _, _, _, _, _, _, _, _, _, _, _]) rfl ?_)
theorem fn_is_contradicted (T : Txt K mg) : FnP P w K mg base "is_contradicted" 5 R_is_contradicted := by
  have F1 : FnP P w K mg base "above" 2 R_above := fn_above T
  have F2 : FnP P w K mg base "contrary" 4 R_contrary := fn_contrary T
  refine fn_pure T.d_is_contradicted sc_is_contradicted (fun _ _ _ _ _ _ us hl => match us, hl with | [_, _, _, _, _], _ => rfl) (fun ds r ⟨_, _, _, _, _, _, _, h, _⟩ => by rw [h]; rfl) ?_
  rintro ds r ⟨n, m, ps, s, t, ks, x, rfl, hn, hp, rfl⟩ f cdv A outer s0 H E hr
  have nd := sc_is_contradicted.nd
  walk_at "nf"
  refine sd_asg (is := [5, 6, 7]) ?_
  walk_at "w"
  refine pwg_tup rfl rfl ?_
  refine pwgs_cons (is := [5]) (js := [6, 7]) (pwg_nm nd rfl (by walk_at "v") ?_)
  refine pwgs_cons (is := [6]) (js := [7]) (pwg_nm nd rfl (by walk_at "v") ?_)
  refine pwgs_cons (is := [7]) (js := []) (pwg_nm nd rfl (by walk_at "v") (pwgs_nil ?_))
  cases x with
  | no a b =>
    refine sd_setN nd rfl (by walk_at "v") ?_
    walk_at "w"
    refine sd_setLc rfl nd (blk_of (own := [("kind", 11)]) sc_is_contradicted rfl rfl (by decide +kernel)) (i := 9) rfl (lcxM (pwi_list ?_))
    walk_at "w"
    refine ⟨Kd, ks, kindD, fun k => intsD (above s k n), [11], rfl, by decide, ?_, ?_⟩
    · intro k hk _ _ _ _ _
      refine pwg_nm nd rfl (by walk_at "v") ?_
      intro _ _ _ _ _; walk_at "nf"
      walk_at "w"
      exact ⟨_, ⟨n, m, s, k, rfl, hn, rfl⟩, rfl⟩
    · walk_at "w"
      refine pw_lcM (own := [("nouns", 12)]) rfl nd (blk_of sc_is_contradicted rfl rfl (by decide +kernel)) (pwi_list ?_)
      walk_at "w"
      refine ⟨Kd, ks, fun k => intsD (above s k n), fun k => .bl (decide (a ∈ above s k n) && decide (b ∈ above s k n)), [12], rfl, by decide, ?_, ?_⟩
      · intro k hk _ _ _ _ _
        refine pwg_nm nd rfl (by walk_at "v") ?_
        intro _ _ _ _ _; walk_at "nf"
        refine AL.pw_and (pw_inI ?_)
        walk_at "w"
        refine ⟨fun h => ?_, fun h => ?_⟩
        · refine AL.pw_one (pw_inI ?_)
          walk_at "w"
          show D.bl (_ && _) = _
          rw [h]; rfl
        · show D.bl (_ && _) = _
          rw [h]; rfl
      · walk_at "w"
        refine ⟨_, mm, ?_⟩
        rw [List.any_map]
        rfl
  | snot a b =>
    walk_at "w"
    refine pw_inT (hu_of hr) ?_
    walk_at "w"
  | fewer a b =>
    walk_at "w"
    refine pw_inT (hu_of hr) ?_
    walk_at "w"
  | verb q a d v b p y =>
    cases p
    · cases q
      · walk_at "w"
        exact ⟨_, ⟨n, m, ps, s, false, a, d, v, b, false, y, .one a, rfl, hn, hp, rfl⟩, rfl⟩
      · walk_at "w"
        refine sd_setLc rfl nd (blk_of (own := [("kind", 11)]) sc_is_contradicted rfl rfl (by decide +kernel)) (i := 10) rfl (lcx (pwi_list ?_))
        walk_at "w"
        refine ⟨Kd, ks, kindD, fun k => if (decide (a ∈ above s k n)) = true then some (kindD k) else none, [11], rfl, by decide, ?_, ?_⟩
        · intro k hk _ _ _ _ _
          refine pwg_nm nd rfl (by walk_at "v") ?_
          intro _ _ _ _ _; walk_at "nf"
          refine pwts_one (pwt_inI ?_)
          walk_at "w"
          refine ⟨_, ⟨n, m, s, k, rfl, hn, rfl⟩, ?_⟩
          refine ⟨a, above s k n, rfl, rfl, fun h => ift h, fun h => ?_⟩
          intro _ _ _ _ _; walk_at "nf"
          walk_at "w"
          exact (ift' h).symm ▸ rfl
        · rw [fm_filter]
          walk_at "w"
          refine pw_lcM (own := [("kind", 11)]) rfl nd (blk_of sc_is_contradicted rfl rfl (by decide +kernel)) (pwi_list ?_)
          walk_at "w"
          refine ⟨Kd, ks.filter fun k => decide (a ∈ above s k n), kindD, fun k => .bl (contrary n ps s (.verb true a d v b false y) k), [11], rfl, by decide, ?_, ?_⟩
          · intro k hk _ _ _ _ _
            refine pwg_nm nd rfl (by walk_at "v") ?_
            intro _ _ _ _ _; walk_at "nf"
            walk_at "w"
            exact ⟨_, ⟨n, m, ps, s, true, a, d, v, b, false, y, k, rfl, hn, hp, rfl⟩, rfl⟩
          · walk_at "w"
            refine ⟨_, mm, ?_⟩
            rw [List.any_map]
            rfl
    · cases q <;> walk_at "w"
  | self q a d v =>
    cases q <;> walk_at "w"
  | _ a b => walk_at "w"
def R_verb_conflicts : List D → D → Prop := fun ds r => ∃ (n m : Nat) (ps : List Sen) (s : Tab) (ks : List Kd) (v : Int), ds = [sigD n m, sensD ps, .tab s, .lst (ks.map kindD), .int v] ∧ n ≤ 4 ∧ ps.length ≤ 8 ∧ ks.length ≤ 20 ∧ r = .lst ((verbConflicts n ps s ks v).map confD)
local macro_rules | `(tactic| walk_at "nf") => `(tactic| first | refine nfS (δ' := [_, _, _, _, _, _, _, _, _]) rfl ?_ | refine nfE (δ' := [_, _, _, _, _, _, _, _, _]) rfl ?_ | refine nfT (δ' := [_, _, _, _, _, _, _, _, _]) rfl ?_ | refine nfTs (δ' := [_, _, _, _, _, _, _, _, _]) rfl ?_ | refine nfI (δ' := [_, _, _, _, _, _, _, _, _]) rfl ?_ | refine nfG (δ' := [_, _, _, _, _, _, _, _, _]) rfl ?_ | refine nfX (δ' := [_, _, _, _, _, _, _, _, _]) rfl ?_ | refine nfXO (δ' := [_, _, _, _, _, _, _, _, _]) rfl ?_)
theorem fn_verb_conflicts (T : Txt K mg) : FnP P w K mg base "verb_conflicts" 6 R_verb_conflicts := by
  have F1 : FnP P w K mg base "forced" 4 R_forced := fn_forced T
  have F2 : FnP P w K mg base "forced_self" 5 R_forced_self := fn_forced_self T
  refine fn_pure T.d_verb_conflicts sc_verb_conflicts (fun _ _ _ _ _ _ us hl => match us, hl with | [_, _, _, _, _], _ => rfl) (fun ds r ⟨_, _, _, _, _, _, h, _⟩ => by rw [h]; rfl) ?_
  rintro ds r ⟨n, m, ps, s, ks, v, rfl, hn, hp, hk, rfl⟩ f cdv A outer s0 H E hr
  have nd := sc_verb_conflicts.nd
  have z : ∀ n : Nat, n ≤ 1000 → n < sizeLine := fun n h => Nat.lt_of_le_of_lt h (by decide)
  let G : Kd → Kd → Option Conf := fun a b => if forced n ps s v a b = .both then some (.pair v a b) else none
  let G2 : Kd → Option Conf := fun k => if forcedSelf n ps s v k = .both then some (.self v k) else none
  have eV : verbConflicts n ps s ks v = (ks.flatMap fun a => ks.filterMap (G a)) ++ ks.filterMap G2 := rfl
  have b1 : ∀ i, ((ks.take i).flatMap fun a => ks.filterMap (G a)).length ≤ 400 := fun i => by
    refine Nat.le_trans flat_fm_le ?_
    rw [List.length_take]
    refine Nat.le_trans (Nat.mul_le_mul (Nat.min_le_right i ks.length) (Nat.le_refl _)) ?_
    exact Nat.le_trans (Nat.mul_le_mul hk hk) (by decide)
  have fe : ∀ {a b : Kd}, seq (wdD (forced n ps s v a b)) (.str "both") = some (decide (forced n ps s v a b = .both)) := fun {a b} => by cases forced n ps s v a b <;> rfl
  have fe2 : ∀ {k : Kd}, seq (wdD (forcedSelf n ps s v k)) (.str "both") = some (decide (forcedSelf n ps s v k = .both)) := fun {k} => by cases forcedSelf n ps s v k <;> rfl
  walk_at "w"
  refine sd_for (is := [6]) PassesOwn.never rfl (pwi_list ?_)
  walk_at "w"
  refine ⟨Kd, ks, kindD, fun i δ' => ∃ c6 c7, δ' = [.im (sigD n m), .im (sensD ps), .im (.tab s), .im (.lst (ks.map kindD)), .im (.int v), .ow (.lst (((ks.take i).flatMap fun a => ks.filterMap (G a)).map confD)), c6, c7, .un], rfl, ⟨_, _, rfl⟩, ?_, ?_⟩
  · rintro i a δ' ha ⟨c6, c7, rfl⟩
    dsimp only
    refine pwg_nm nd rfl (by walk_at "v") ?_
    walk_at "nf"
    refine sd_for (is := [7]) PassesOwn.never rfl (pwi_list ?_)
    walk_at "w"
    have hb1 := b1 i
    refine ⟨Kd, ks, kindD, fun j δ' => ∃ c7, δ' = [.im (sigD n m), .im (sensD ps), .im (.tab s), .im (.lst (ks.map kindD)), .im (.int v), .ow (.lst (((((ks.take i).flatMap fun a => ks.filterMap (G a))) ++ (ks.take j).filterMap (G a)).map confD)), .im (kindD a), c7, .un], rfl, ⟨c7, ?_⟩, ?_, ?_⟩
    · rw [List.take_zero, List.filterMap_nil, List.append_nil]
    · rintro j b δ' hb ⟨c7, rfl⟩
      dsimp only
      have ej : (ks.take (j + 1)).filterMap (G a) = (ks.take j).filterMap (G a) ++ (G a b).toList := filterMap_snoc hb
      have hl2 := List.length_filterMap_le (G a) (ks.take j)
      rw [List.length_take] at hl2
      rw [ej]
      generalize ((ks.take i).flatMap fun a => ks.filterMap (G a)) = l1 at *
      generalize (ks.take j).filterMap (G a) = l2 at *
      refine pwg_nm nd rfl (by walk_at "v") ?_
      walk_at "nf"
      refine sd_if (pwt_eq ?_)
      walk_at "w"
      refine ⟨_, ⟨n, m, ps, s, v, a, b, rfl, hn, hp, rfl⟩, ?_⟩
      walk_at "w"
      refine ⟨_, fe, fun h => ?_, fun h => ?_⟩
      · have eg : G a b = some (.pair v a b) := if_pos (of_decide_eq_true h)
        rw [eg]
        walk_at "w"
        refine ⟨z _ ?_, ?_⟩
        · rw [List.length_map, List.length_append]
          omega
        · walk_at "w"
          refine ⟨.im (kindD b), ?_⟩
          rw [← List.append_assoc]
          simp only [List.map_append]
          rfl
      · have eg : G a b = none := if_neg (of_decide_eq_false h)
        rw [eg]
        walk_at "w"
        refine ⟨.im (kindD b), ?_⟩
        rw [Option.toList_none, List.append_nil]
    · rintro δ' ⟨c7, rfl⟩
      rw [List.take_length]
      refine sd_nil ⟨.im (kindD a), c7, ?_⟩
      rw [flatMap_snoc ha]
  · rintro δ' ⟨c6, c7, rfl⟩
    rw [List.take_length]
    have hb1 := b1 ks.length
    rw [List.take_length] at hb1
    rw [eV]
    generalize (ks.flatMap fun a => ks.filterMap (G a)) = l1 at *
    refine sd_for (is := [8]) PassesOwn.never rfl (pwi_list ?_)
    walk_at "w"
    refine ⟨Kd, ks, kindD, fun j δ' => ∃ c8, δ' = [.im (sigD n m), .im (sensD ps), .im (.tab s), .im (.lst (ks.map kindD)), .im (.int v), .ow (.lst ((l1 ++ (ks.take j).filterMap G2).map confD)), c6, c7, c8], rfl, ⟨.un, ?_⟩, ?_, ?_⟩
    · rw [List.take_zero, List.filterMap_nil, List.append_nil]
    · rintro j b δ' hb ⟨c8, rfl⟩
      dsimp only
      have ej : (ks.take (j + 1)).filterMap G2 = (ks.take j).filterMap G2 ++ (G2 b).toList := filterMap_snoc hb
      have hl2 := List.length_filterMap_le G2 (ks.take j)
      rw [List.length_take] at hl2
      rw [ej]
      generalize (ks.take j).filterMap G2 = l2 at *
      refine pwg_nm nd rfl (by walk_at "v") ?_
      walk_at "nf"
      refine sd_if (pwt_eq ?_)
      walk_at "w"
      refine ⟨_, ⟨n, m, ps, s, v, b, rfl, hn, hp, rfl⟩, ?_⟩
      walk_at "w"
      refine ⟨_, fe2, fun h => ?_, fun h => ?_⟩
      · have eg : G2 b = some (.self v b) := if_pos (of_decide_eq_true h)
        rw [eg]
        walk_at "w"
        refine ⟨z _ ?_, ?_⟩
        · rw [List.length_map, List.length_append]
          omega
        · walk_at "w"
          refine ⟨.im (kindD b), ?_⟩
          rw [← List.append_assoc]
          simp only [List.map_append]
          rfl
      · have eg : G2 b = none := if_neg (of_decide_eq_false h)
        rw [eg]
        walk_at "w"
        refine ⟨.im (kindD b), ?_⟩
        rw [Option.toList_none, List.append_nil]
    · rintro δ' ⟨c8, rfl⟩
      rw [List.take_length]
      refine sd_freeze 5 rfl rfl ?_
      walk_at "w"
end
end AL
namespace AL
open PySem PySem.Spec PyProof.Rows L2 Mi
local macro_rules | `(tactic| walk_at "v") => `(tactic| first | exact Or.inl rfl | exact Or.inr rfl | exact Or.inr (Or.inl rfl) | exact Or.inr (Or.inr rfl))
local macro_rules | `(tactic| walk_at "we") => `(tactic| first
  | refine pw_nm rfl (by walk_at "v") rfl ?_
  | refine pw_int ?_
  | refine pw_str ?_
  | refine pw_bl ?_
  | (refine gEcmp ?_; walk_at "wc")
  | refine pw_ix ?_
  | (refine gEcall ?_; walk_at "wf")
  | refine pw_tup ?_
  | refine AL.pw_and ?_
  | refine AL.pw_or ?_
  | refine AL.pw_one ?_
  | refine AL.pw_not ?_
  | (refine gEbin ?_; walk_at "wb")
  | refine pw_slice ?_
  | refine pw_lst ?_
  | refine pw_ife ?_
  | refine pw_neg ?_
  | refine pw_non ?_
  | refine pw_gint rfl (Txt.c_MOST_NOUNS (by assumption)) ?_
  | refine pw_gint rfl (Txt.c_MOST_VERBS (by assumption)) ?_
  | refine pw_gint rfl (Txt.c_MOST_PREMISES (by assumption)) ?_
  | refine pw_gint rfl (Txt.c_MOST_SPEAKER (by assumption)) ?_
  | refine pw_gint rfl (Txt.c_MOST_ASSERTIONS (by assumption)) ?_
  | refine pw_gint rfl (Txt.c_MOST_COMMANDS (by assumption)) ?_
  )
local macro_rules | `(tactic| walk_at "wc") => `(tactic| first
  | refine pw_eqS (by assumption) ?_
  | refine pw_eq ?_
  | refine pw_ne ?_
  | refine pw_chainLe ?_
  | refine pw_lt ?_
  | refine pw_le ?_
  | refine pw_gt ?_
  | refine pw_ge ?_
  | refine pw_inG (Txt.c_TWO_NOUNS (by assumption)) rfl ?_
  | refine pw_inG (Txt.c_QUANTITIES (by assumption)) rfl ?_
  )
local macro_rules | `(tactic| walk_at "wf") => `(tactic| first
  | refine pw_len (Txt.b_len (by assumption)) ?_
  | refine pw_isi_int (Txt.b_isinstance (by assumption)) (Txt.b_int (by assumption)) ?_
  | refine pw_isi_bool (Txt.b_isinstance (by assumption)) (Txt.b_bool (by assumption)) ?_
  | refine pw_isi_str (Txt.b_isinstance (by assumption)) (Txt.b_str (by assumption)) ?_
  | refine pw_isi_tuple (Txt.b_isinstance (by assumption)) (Txt.b_tuple (by assumption)) ?_
  | refine pw_isi_list (Txt.b_isinstance (by assumption)) (Txt.b_list (by assumption)) ?_
  | refine pw_tuple (Txt.b_tuple (by assumption)) ?_
  | refine pw_any rfl (Txt.b_any (by assumption)) ?_
  | refine pw_all rfl (Txt.b_all (by assumption)) ?_
  | refine pw_sum rfl (Txt.b_sum (by assumption)) ?_
  | refine pw_min2 rfl (Txt.b_min (by assumption)) ?_
  | refine pw_max2 rfl (Txt.b_max (by assumption)) ?_
  | refine pw_toInt (Txt.b_int (by assumption)) ?_
  | refine pw_call (by assumption) (by assumption) (by decide) rfl ?_
  )
local macro_rules | `(tactic| walk_at "wb") => `(tactic| first
  | refine pw_add ?_
  | refine pw_sub ?_
  | refine pw_mul ?_
  | refine pw_fdiv ?_
  | refine pw_mod ?_
  )
local macro_rules | `(tactic| walk_at "wt") => `(tactic| first
  | (refine gTcmp ?_; walk_at "wd")
  | refine pwt_w ?_
  | refine pwt_not ?_
  | refine pwt_tru (fun _ => rfl) ?_
  )
local macro_rules | `(tactic| walk_at "wd") => `(tactic| first
  | refine pwt_eqS (by assumption) ?_
  | refine pwt_eq ?_
  | refine pwt_ne ?_
  | refine pwt_lt ?_
  | refine pwt_le ?_
  | refine pwt_gt ?_
  | refine pwt_ge ?_
  | refine pwt_inG (Txt.c_TWO_NOUNS (by assumption)) rfl ?_
  | refine pwt_inG (Txt.c_QUANTITIES (by assumption)) rfl ?_
  | refine pwt_inTup ?_
  | refine pwt_inLst ?_
  )
local macro_rules | `(tactic| walk_at "wl") => `(tactic| first
  | refine br_t rfl ?_
  | refine br_f rfl ?_
  | refine rb_t rfl ?_
  | refine rb_f rfl ?_
  | refine ⟨_, rfl, ?_⟩
  | refine ⟨_, _, rfl, rfl, ?_⟩
  | refine ⟨_, _, rfl, ?_⟩
  | refine ⟨rfl, ?_⟩
  | refine ⟨dp_ok _ rfl rfl, ?_⟩
  | refine ⟨_, _, _, rfl, rfl, rfl, ?_⟩
  | refine ⟨le_line (Nat.le_of_ble_eq_true rfl), ?_⟩
  | refine ⟨_, _, _, rfl, rfl, ?_⟩
  | exact rfl
  )
local macro_rules | `(tactic| walk_at "w1") => `(tactic| first
  | (refine gE ?_; walk_at "we")
  | (refine gT ?_; walk_at "wt")
  | (refine gA ?_; first | refine pwa_cons ?_ | refine pwa_nil ?_)
  | (refine gW ?_; first | refine pww_and ?_ | refine pww_or ?_ | refine pww_and1 ?_ | refine pww_or1 ?_)
  | (refine gS ?_; walk_at "nf"; first | refine sd_ret ?_ | refine sd_if ?_ | refine sd_newLN (by assumption) rfl (by walk_at "v") (Nat.le_of_ble_eq_true rfl) ?_ | refine sd_setN (by assumption) rfl (by walk_at "v") ?_ | refine sd_appendN rfl rfl (by walk_at "v") ?_ | refine sd_nil ?_)
  | (refine gP ?_; first | refine pwp_none ?_ | refine pwp_some ?_)
  | walk_at "wl"
  )
local macro_rules | `(tactic| walk_at "w") => `(tactic| repeat walk_at "w1")

section
variable {P : Program} {w : World} {K : PySem.W.Frag} {mg : Str → Option Value} {base : Heap}
theorem verbConflicts_len {n : Nat} {ps : List Sen} {s : Tab} {ks : List Kd} {v : Int} (hk : ks.length ≤ 20) : (verbConflicts n ps s ks v).length ≤ 420 := by
  unfold verbConflicts
  rw [List.length_append]
  have h1 : (ks.flatMap fun f => ks.filterMap fun g => if forced n ps s v f g = .both then some (Conf.pair v f g) else none).length ≤ 400 := Nat.le_trans flat_fm_le (Nat.le_trans (Nat.mul_le_mul hk hk) (by decide))
  have h2 := List.length_filterMap_le (fun k => if forcedSelf n ps s v k = .both then some (Conf.self v k) else none) ks
  omega
def confBy (n m : Nat) (ps : List Sen) (s t : Tab) (ks : List Kd) : List Conf :=
  (ps.zipIdx.filterMap fun p => if isContradicted n ps s t ks p.1 then some (.premise p.2) else none) ++ (rgI m).flatMap fun v => verbConflicts n ps s ks v
theorem zipIdx_take {α : Type} (l : List α) (i : Nat) : (l.take i).zipIdx = l.zipIdx.take i := by
  apply List.ext_getElem?
  intro j
  simp only [List.getElem?_zipIdx, List.getElem?_take]
  by_cases h : j < i <;> simp [h]
theorem enD_zip (l : List D) : enD l = l.zipIdx.map fun p => D.tup [.int ((p.2 : Nat) : Int), p.1] := by
  apply List.ext_getElem?
  intro j
  simp only [enD, List.getElem?_mapIdx, List.getElem?_map, List.getElem?_zipIdx]
  cases l[j]? <;> simp
def R_conflicts_by : List D → D → Prop := fun ds r => ∃ (n m : Nat) (ps : List Sen) (s t : Tab) (ks : List Kd), ds = [sigD n m, sensD ps, .tup [.tab s, .tab t, .tab s], .lst (ks.map kindD)] ∧ n ≤ 4 ∧ m ≤ 2 ∧ ps.length ≤ 8 ∧ ks.length ≤ 20 ∧ r = .lst ((confBy n m ps s t ks).map confD)
local macro_rules | `(tactic| walk_at "nf") => `(tactic| first | refine nfS (δ' := [_, _, _, _, _, _, _, _]) rfl ?_ | refine nfE (δ' := [_, _, _, _, _, _, _, _]) rfl ?_ | refine nfT (δ' := [_, _, _, _, _, _, _, _]) rfl ?_ | refine nfTs (δ' := [_, _, _, _, _, _, _, _]) rfl ?_ | refine nfI (δ' := [_, _, _, _, _, _, _, _]) rfl ?_ | refine nfG (δ' := [_, _, _, _, _, _, _, _]) rfl ?_ | refine nfX (δ' := [_, _, _, _, _, _, _, _]) rfl ?_ | refine nfXO (δ' := [_, _, _, _, _, _, _, _]) rfl ?_)
theorem fn_conflicts_by (T : Txt K mg) : FnP P w K mg base "conflicts_by" 7 R_conflicts_by := by
  have F1 : FnP P w K mg base "is_contradicted" 5 R_is_contradicted := fn_is_contradicted T
  have F2 : FnP P w K mg base "verb_conflicts" 6 R_verb_conflicts := fn_verb_conflicts T
  refine fn_pure T.d_conflicts_by sc_conflicts_by (fun _ _ _ _ _ _ us hl => match us, hl with | [_, _, _, _], _ => rfl) (fun ds r ⟨_, _, _, _, _, _, h, _⟩ => by rw [h]; rfl) ?_
  rintro ds r ⟨n, m, ps, s, t, ks, rfl, hn, hm, hp, hk, rfl⟩ f cdv A outer s0 H E hr
  have nd := sc_conflicts_by.nd
  have z : ∀ n : Nat, n ≤ 2000 → n < sizeLine := fun n h => Nat.lt_of_le_of_lt h (by decide)
  let G : Sen × Nat → Option Conf := fun p => if isContradicted n ps s t ks p.1 then some (.premise p.2) else none
  have eC : confBy n m ps s t ks = ps.zipIdx.filterMap G ++ (rgI m).flatMap fun v => verbConflicts n ps s ks v := rfl
  walk_at "w"
  refine sd_for (is := [5, 6]) PassesOwn.never rfl (pwi_enumT T.b_enumerate ?_)
  walk_at "w"
  refine ⟨Sen × Nat, ps.zipIdx, fun p => .tup [.int ((p.2 : Nat) : Int), senD p.1], fun i δ' => ∃ c5 c6, δ' = [.im (sigD n m), .im (sensD ps), .im (.tup [.tab s, .tab t, .tab s]), .im (.lst (ks.map kindD)), .ow (.lst (((ps.zipIdx.take i).filterMap G).map confD)), c5, c6, .un], ?_, ⟨_, _, rfl⟩, ?_, ?_⟩
  · rw [enD_zip, List.zipIdx_map, List.map_map]; rfl
  · rintro i ⟨x, k⟩ δ' hx ⟨c5, c6, rfl⟩
    dsimp only
    have ej : (ps.zipIdx.take (i + 1)).filterMap G = (ps.zipIdx.take i).filterMap G ++ (G (x, k)).toList := filterMap_snoc hx
    have hl := List.length_filterMap_le G (ps.zipIdx.take i)
    rw [List.length_take, List.length_zipIdx] at hl
    rw [ej]
    generalize (ps.zipIdx.take i).filterMap G = l1 at *
    refine pwg_pair nd rfl rfl rfl (by walk_at "v") (by walk_at "v") ?_
    walk_at "nf"
    refine sd_if (pwt_val (fun _ => rfl) ?_)
    walk_at "w"
    refine ⟨_, ⟨n, m, ps, s, t, ks, x, rfl, hn, hp, rfl⟩, _, rfl, fun h => ?_, fun h => ?_⟩
    · have eg : G (x, k) = some (.premise k) := if_pos h
      rw [eg]
      walk_at "w"
      refine ⟨z _ ?_, ?_⟩
      · rw [List.length_map]
        omega
      · walk_at "w"
        refine ⟨.im (.int ((k : Nat) : Int)), .im (senD x), ?_⟩
        simp only [List.map_append]
        rfl
    · have eg : G (x, k) = none := if_neg (fun w => Bool.false_ne_true (h.symm.trans w))
      rw [eg]
      walk_at "w"
      refine ⟨.im (.int ((k : Nat) : Int)), .im (senD x), ?_⟩
      rw [Option.toList_none, List.append_nil]
  · rintro δ' ⟨c5, c6, rfl⟩
    rw [List.take_of_length_le (Nat.le_refl _), eC]
    have hl := List.length_filterMap_le G ps.zipIdx
    rw [List.length_zipIdx] at hl
    generalize ps.zipIdx.filterMap G = l1 at *
    have hb : ∀ i, ((((rgI m).take i).flatMap fun v => verbConflicts n ps s ks v)).length ≤ 840 := fun i => by
      have := flat_le (k := 420) (l := (rgI m).take i) (f := fun v => verbConflicts n ps s ks v) fun v _ => verbConflicts_len hk
      rw [List.length_take, len_rgI] at this
      have h3 : min i m * 420 ≤ 2 * 420 := Nat.mul_le_mul (Nat.le_trans (Nat.min_le_right _ _) hm) (Nat.le_refl _)
      omega
    refine sd_for (is := [7]) PassesOwn.never rfl (pwi_range1 T.b_range ?_)
    walk_at "w"
    refine ⟨by omega, by omega, Int, rgI m, D.int, fun i δ' => ∃ c7, δ' = [.im (sigD n m), .im (sensD ps), .im (.tup [.tab s, .tab t, .tab s]), .im (.lst (ks.map kindD)), .ow (.lst ((l1 ++ (((rgI m).take i).flatMap fun v => verbConflicts n ps s ks v)).map confD)), c5, c6, c7], rgD0 m, ⟨.un, ?_⟩, ?_, ?_⟩
    · rw [List.take_zero, List.flatMap_nil, List.append_nil]
    · rintro i v δ' hv ⟨c7, rfl⟩
      dsimp only
      have ej : ((rgI m).take (i + 1)).flatMap (fun v => verbConflicts n ps s ks v) = ((rgI m).take i).flatMap (fun v => verbConflicts n ps s ks v) ++ verbConflicts n ps s ks v := flatMap_snoc hv
      have hb1 := hb i
      have hb2 := verbConflicts_len (n := n) (ps := ps) (s := s) (v := v) hk
      rw [ej]
      generalize ((rgI m).take i).flatMap (fun v => verbConflicts n ps s ks v) = l2 at *
      refine pwg_nm nd rfl (by walk_at "v") ?_
      walk_at "nf"
      refine sd_extendN rfl rfl (by walk_at "v") ?_
      walk_at "w"
      refine ⟨_, ⟨n, m, ps, s, ks, v, rfl, hn, hp, hk, rfl⟩, ?_⟩
      refine ⟨_, rfl, ?_, ?_⟩
      · rw [List.length_map, List.length_map, List.length_append]
        exact Nat.le_of_lt (z _ (by omega))
      · walk_at "w"
        refine ⟨.im (.int v), ?_⟩
        simp only [List.map_append, List.append_assoc]
    · rintro δ' ⟨c7, rfl⟩
      rw [List.take_of_length_le (Nat.le_refl _)]
      refine sd_freeze 4 rfl rfl ?_
      walk_at "w"
theorem requiredKinds_len {n m : Nat} {ps : List Sen} (ok : Prem n m ps) : (requiredKinds n ps).length ≤ 20 := by
  unfold requiredKinds
  have h1 := requiredNouns_len n ps
  have h2 := statedKinds_len ps
  have h3 := List.length_filter_le (fun k => !isOne k) (statedKinds ps)
  have h4 := ok.1.2.1
  have h5 := ok.2.1
  rw [List.length_append, List.length_map]
  omega
def R_conflicts_of : List D → D → Prop := fun ds r => ∃ (n m : Nat) (ps : List Sen), ds = [sigD n m, sensD ps] ∧ Prem n m ps ∧ r = .lst ((conflictsOf n m ps).map confD)
local macro_rules | `(tactic| walk_at "nf") => `(tactic| first | refine nfS (δ' := [_, _, _, _]) rfl ?_ | refine nfE (δ' := [_, _, _, _]) rfl ?_ | refine nfT (δ' := [_, _, _, _]) rfl ?_ | refine nfTs (δ' := [_, _, _, _]) rfl ?_ | refine nfI (δ' := [_, _, _, _]) rfl ?_ | refine nfG (δ' := [_, _, _, _]) rfl ?_ | refine nfX (δ' := [_, _, _, _]) rfl ?_ | refine nfXO (δ' := [_, _, _, _]) rfl ?_)
theorem fn_conflicts_of (T : Txt K mg) : FnP P w K mg base "conflicts_of" 8 R_conflicts_of := by
  have F1 : FnP P w K mg base "table_of" 2 R_table_of := fn_table_of T
  have F2 : FnP P w K mg base "required_kinds" 4 R_required_kinds := fn_required_kinds T
  have F3 : FnP P w K mg base "conflicts_by" 7 R_conflicts_by := fn_conflicts_by T
  refine fn_pure T.d_conflicts_of sc_conflicts_of (fun _ _ _ _ _ _ us hl => match us, hl with | [_, _], _ => rfl) (fun ds r ⟨_, _, _, h, _⟩ => by rw [h]; rfl) ?_
  rintro ds r ⟨n, m, ps, rfl, ok, rfl⟩ f cdv A outer s0 H E hr
  have nd := sc_conflicts_of.nd
  walk_at "nf"
  refine sd_asg (is := [2, 3]) ?_
  walk_at "w"
  refine ⟨_, ⟨n, m, ps, rfl, ok, rfl⟩, ?_⟩
  refine pwg_pair nd rfl rfl rfl (by walk_at "v") (by walk_at "v") ?_
  walk_at "w"
  refine ⟨_, ⟨n, m, ps, rfl, ok, rfl⟩, ?_⟩
  walk_at "w"
  refine ⟨_, ⟨n, m, ps, _, _, _, rfl, ok.1.2.1, ok.1.2.2, ok.2.1, requiredKinds_len ok, rfl⟩, ?_⟩
  rfl
theorem dpWs_confs : ∀ l : List Conf, dpWs (l.map confD) = true ∧ dpts (l.map confD) ≤ 2
  | [] => ⟨rfl, by simp [dpts]⟩
  | c :: r => by
    obtain ⟨h1, h2⟩ := dpWs_confs r
    have hk : ∀ k : Kd, dpW (kindD k) = true ∧ dpt (kindD k) = 1 := fun k => by cases k <;> exact ⟨rfl, rfl⟩
    have hc : dpW (confD c) = true ∧ dpt (confD c) ≤ 2 := by
      cases c with
      | premise i => exact ⟨rfl, by simp [confD, dpt, dpts]⟩
      | pair v a b =>
        obtain ⟨a1, a2⟩ := hk a
        obtain ⟨b1, b2⟩ := hk b
        exact ⟨by simp only [confD, dpW, dpWs, a1, b1]; rfl, by simp [confD, dpt, dpts, a2, b2]⟩
      | self v k =>
        obtain ⟨a1, a2⟩ := hk k
        exact ⟨by simp only [confD, dpW, dpWs, a1]; rfl, by simp [confD, dpt, dpts, a2]⟩
    rw [List.map_cons]
    refine ⟨by simp only [dpWs, hc.1, h1]; rfl, ?_⟩
    simp only [dpts]
    omega
theorem confs_ok (l : List Conf) : dpOk (.lst (l.map confD)) = true := by
  obtain ⟨h1, h2⟩ := dpWs_confs l
  refine dp_ok _ (by simp only [dpW]; exact h1) ?_
  rw [Nat.ble_eq]
  simp only [dpt]
  omega
theorem confs_eq (l : List Conf) : eqD (.lst (l.map confD)) (.lst []) = l.isEmpty := by
  cases l with
  | nil => simp [eqD, pdOf, pdsOf, PyData.eqv, PyData.eqvAll]
  | cons a r => simp [eqD, pdOf, pdsOf, PyData.eqv, PyData.eqvAll]
def R_can_hold : List D → D → Prop := fun ds r => ∃ (n m : Nat) (ps : List Sen), ds = [sigD n m, sensD ps] ∧ Prem n m ps ∧ r = .bl (conflictsOf n m ps).isEmpty
local macro_rules | `(tactic| walk_at "nf") => `(tactic| first | refine nfS (δ' := [_, _]) rfl ?_ | refine nfE (δ' := [_, _]) rfl ?_ | refine nfT (δ' := [_, _]) rfl ?_ | refine nfTs (δ' := [_, _]) rfl ?_ | refine nfI (δ' := [_, _]) rfl ?_ | refine nfG (δ' := [_, _]) rfl ?_ | refine nfX (δ' := [_, _]) rfl ?_ | refine nfXO (δ' := [_, _]) rfl ?_)
theorem fn_can_hold (T : Txt K mg) : FnP P w K mg base "can_hold" 9 R_can_hold := by
  have F1 : FnP P w K mg base "check_premises" 6 R_check_premises := fn_check_premises T
  have F2 : FnP P w K mg base "conflicts_of" 8 R_conflicts_of := fn_conflicts_of T
  refine fn_pure T.d_can_hold sc_can_hold (fun _ _ _ _ _ _ us hl => match us, hl with | [_, _], _ => rfl) (fun ds r ⟨_, _, _, h, _⟩ => by rw [h]; rfl) ?_
  rintro ds r ⟨n, m, ps, rfl, ok, rfl⟩ f cdv A outer s0 H E hr
  walk_at "nf"
  refine sd_expr ?_
  walk_at "w"
  refine ⟨_, ⟨n, m, ps, rfl, ok, rfl⟩, ?_⟩
  refine sd_ret (pw_eqD hr.units ?_)
  walk_at "w"
  refine ⟨_, ⟨n, m, ps, rfl, ok, rfl⟩, ?_⟩
  walk_at "w"
  refine ⟨confs_ok _, ?_⟩
  walk_at "w"
  rw [confs_eq]
end
end AL
namespace AL
open PySem PySem.Spec PyProof.Rows L2 Mi
local macro_rules | `(tactic| walk_at "v") => `(tactic| first | exact Or.inl rfl | exact Or.inr rfl | exact Or.inr (Or.inl rfl) | exact Or.inr (Or.inr rfl))
local macro_rules | `(tactic| walk_at "we") => `(tactic| first
  | refine pw_nm rfl (by walk_at "v") rfl ?_
  | refine pw_int ?_
  | refine pw_str ?_
  | refine pw_bl ?_
  | (refine gEcmp ?_; walk_at "wc")
  | refine pw_ix ?_
  | (refine gEcall ?_; walk_at "wf")
  | refine pw_tup ?_
  | refine AL.pw_and ?_
  | refine AL.pw_or ?_
  | refine AL.pw_one ?_
  | refine AL.pw_not ?_
  | (refine gEbin ?_; walk_at "wb")
  | refine pw_slice ?_
  | refine pw_lst ?_
  | refine pw_ife ?_
  | refine pw_neg ?_
  | refine pw_non ?_
  | refine pw_gint rfl (Txt.c_MOST_NOUNS (by assumption)) ?_
  | refine pw_gint rfl (Txt.c_MOST_VERBS (by assumption)) ?_
  | refine pw_gint rfl (Txt.c_MOST_PREMISES (by assumption)) ?_
  | refine pw_gint rfl (Txt.c_MOST_SPEAKER (by assumption)) ?_
  | refine pw_gint rfl (Txt.c_MOST_ASSERTIONS (by assumption)) ?_
  | refine pw_gint rfl (Txt.c_MOST_COMMANDS (by assumption)) ?_
  )
local macro_rules | `(tactic| walk_at "wc") => `(tactic| first
  | refine pw_eqS (by assumption) ?_
  | refine pw_eq ?_
  | refine pw_ne ?_
  | refine pw_chainLe ?_
  | refine pw_lt ?_
  | refine pw_le ?_
  | refine pw_gt ?_
  | refine pw_ge ?_
  | refine pw_inG (Txt.c_TWO_NOUNS (by assumption)) rfl ?_
  | refine pw_inG (Txt.c_QUANTITIES (by assumption)) rfl ?_
  )
local macro_rules | `(tactic| walk_at "wf") => `(tactic| first
  | refine pw_len (Txt.b_len (by assumption)) ?_
  | refine pw_isi_int (Txt.b_isinstance (by assumption)) (Txt.b_int (by assumption)) ?_
  | refine pw_isi_bool (Txt.b_isinstance (by assumption)) (Txt.b_bool (by assumption)) ?_
  | refine pw_isi_str (Txt.b_isinstance (by assumption)) (Txt.b_str (by assumption)) ?_
  | refine pw_isi_tuple (Txt.b_isinstance (by assumption)) (Txt.b_tuple (by assumption)) ?_
  | refine pw_isi_list (Txt.b_isinstance (by assumption)) (Txt.b_list (by assumption)) ?_
  | refine pw_tuple (Txt.b_tuple (by assumption)) ?_
  | refine pw_any rfl (Txt.b_any (by assumption)) ?_
  | refine pw_all rfl (Txt.b_all (by assumption)) ?_
  | refine pw_sum rfl (Txt.b_sum (by assumption)) ?_
  | refine pw_min2 rfl (Txt.b_min (by assumption)) ?_
  | refine pw_max2 rfl (Txt.b_max (by assumption)) ?_
  | refine pw_toInt (Txt.b_int (by assumption)) ?_
  | refine pw_call (by assumption) (by assumption) (by decide) rfl ?_
  )
local macro_rules | `(tactic| walk_at "wb") => `(tactic| first
  | refine pw_add ?_
  | refine pw_sub ?_
  | refine pw_mul ?_
  | refine pw_fdiv ?_
  | refine pw_mod ?_
  )
local macro_rules | `(tactic| walk_at "wt") => `(tactic| first
  | (refine gTcmp ?_; walk_at "wd")
  | refine pwt_w ?_
  | refine pwt_not ?_
  | refine pwt_tru (fun _ => rfl) ?_
  )
local macro_rules | `(tactic| walk_at "wd") => `(tactic| first
  | refine pwt_eqS (by assumption) ?_
  | refine pwt_eq ?_
  | refine pwt_ne ?_
  | refine pwt_lt ?_
  | refine pwt_le ?_
  | refine pwt_gt ?_
  | refine pwt_ge ?_
  | refine pwt_inG (Txt.c_TWO_NOUNS (by assumption)) rfl ?_
  | refine pwt_inG (Txt.c_QUANTITIES (by assumption)) rfl ?_
  | refine pwt_inTup ?_
  | refine pwt_inLst ?_
  )
local macro_rules | `(tactic| walk_at "wl") => `(tactic| first
  | refine br_t rfl ?_
  | refine br_f rfl ?_
  | refine rb_t rfl ?_
  | refine rb_f rfl ?_
  | refine ⟨_, rfl, ?_⟩
  | refine ⟨_, _, rfl, rfl, ?_⟩
  | refine ⟨_, _, rfl, ?_⟩
  | refine ⟨rfl, ?_⟩
  | refine ⟨dp_ok _ rfl rfl, ?_⟩
  | refine ⟨_, _, _, rfl, rfl, rfl, ?_⟩
  | refine ⟨le_line (Nat.le_of_ble_eq_true rfl), ?_⟩
  | refine ⟨_, _, _, rfl, rfl, ?_⟩
  | exact rfl
  )
local macro_rules | `(tactic| walk_at "w1") => `(tactic| first
  | (refine gE ?_; walk_at "we")
  | (refine gT ?_; walk_at "wt")
  | (refine gA ?_; first | refine pwa_cons ?_ | refine pwa_nil ?_)
  | (refine gW ?_; first | refine pww_and ?_ | refine pww_or ?_ | refine pww_and1 ?_ | refine pww_or1 ?_)
  | (refine gS ?_; walk_at "nf"; first | refine sd_ret ?_ | refine sd_if ?_ | refine sd_newLN (by assumption) rfl (by walk_at "v") (Nat.le_of_ble_eq_true rfl) ?_ | refine sd_setN (by assumption) rfl (by walk_at "v") ?_ | refine sd_appendN rfl rfl (by walk_at "v") ?_ | refine sd_nil ?_)
  | (refine gP ?_; first | refine pwp_none ?_ | refine pwp_some ?_)
  | walk_at "wl"
  )
local macro_rules | `(tactic| walk_at "w") => `(tactic| repeat walk_at "w1")

section
variable {P : Program} {w : World} {K : PySem.W.Frag} {mg : Str → Option Value} {base : Heap}
def R_is_plain : List D → D → Prop := fun ds r => ∃ (s : Tab) (k : Kd), ds = [.tab s, kindD k] ∧ (∀ x, k = .one x → 0 ≤ x ∧ x < 100) ∧ r = .bl (isPlain s k)
local macro_rules | `(tactic| walk_at "nf") => `(tactic| first | refine nfS (δ' := [_, _, _]) rfl ?_ | refine nfE (δ' := [_, _, _]) rfl ?_ | refine nfT (δ' := [_, _, _]) rfl ?_ | refine nfTs (δ' := [_, _, _]) rfl ?_ | refine nfI (δ' := [_, _, _]) rfl ?_ | refine nfG (δ' := [_, _, _]) rfl ?_ | refine nfX (δ' := [_, _, _]) rfl ?_ | refine nfXO (δ' := [_, _, _]) rfl ?_)
theorem fn_is_plain (T : Txt K mg) : FnP P w K mg base "is_plain" 1 R_is_plain := by
  refine fn_pure T.d_is_plain sc_is_plain (fun _ _ _ _ _ _ us hl => match us, hl with | [_, _], _ => rfl) (fun ds r ⟨_, _, h, _⟩ => by rw [h]; rfl) ?_
  rintro ds r ⟨s, k, rfl, hk, rfl⟩ f cdv A outer s0 H E hr
  have nd := sc_is_plain.nd
  cases k with
  | one x =>
    obtain ⟨h1, h2⟩ := hk x rfl
    walk_at "w"
    refine pw_lcM (own := [("less", 2)]) rfl nd (blk_of sc_is_plain rfl rfl (by decide +kernel)) (pwi_range1 T.b_range ?_)
    walk_at "w"
    refine ⟨by omega, by omega, Int, rgI x.toNat, D.int, fun l => .bl (has s l x && has s x l), [2], rgD0 x.toNat, by decide, ?_, ?_⟩
    · intro l hl _ _ _ _ _
      refine pwg_nm nd rfl (by walk_at "v") ?_
      intro _ _ _ _ _; walk_at "nf"
      refine AL.pw_and (pw_inT (hu_of hr) ?_)
      walk_at "w"
      refine ⟨fun h => ?_, fun h => ?_⟩
      · refine AL.pw_one (pw_inT (hu_of hr) ?_)
        walk_at "w"
        show D.bl (decide _ && decide _) = _
        rw [h]; rfl
      · show D.bl (decide _ && decide _) = _
        rw [h]; rfl
    · walk_at "w"
      refine ⟨_, mm, _, rfl, ?_⟩
      rw [List.any_map]
      rfl
  | _ => walk_at "w"
theorem getM_map {f : Int → Int} : ∀ {l : List Int} {y : Int}, y ∈ l → getM (l.map fun x => (x, f x)) y = some (f y)
  | a :: r, y, h => by
    rw [List.map_cons, getM]
    by_cases e : a = y
    · rw [if_pos e, e]
    · rw [if_neg e]
      exact getM_map ((List.mem_cons.mp h).resolve_left (Ne.symm e))
theorem atI_nat {α : Type} {l : List α} {i : Nat} (h : i < l.length) : atI l ((i : Nat) : Int) = some l[i] := by
  unfold atI ixN
  rw [if_pos (by omega), if_pos (by omega)]
  show l[((i : Nat) : Int).toNat]? = _
  rw [Int.toNat_natCast, List.getElem?_eq_getElem h]
theorem kind_noun (k : Kd) : ∃ s r, kindD k = .tup (.str s :: .int (nounOf k) :: r) := by cases k <;> exact ⟨_, _, rfl⟩
theorem ixN_nat {n i : Nat} (h : i < n) : ixN n ((i : Nat) : Int) = some i := by
  unfold ixN
  rw [if_pos (by omega), if_pos (by omega), Int.toNat_natCast]
theorem atI_map {α β : Type} {f : α → β} {l : List α} {a : Nat} {k : α} (h : l[a]? = some k) : atI (l.map f) ((a : Nat) : Int) = some (f k) := by
  have hl := (List.getElem?_eq_some_iff.mp h).1
  unfold atI
  rw [List.length_map, ixN_nat hl]
  show (l.map f)[a]? = _
  rw [List.getElem?_map, h]; rfl
theorem at1 {α : Type} {a b : α} {r : List α} : atI (a :: b :: r) 1 = some b := atI_nat (l := a :: b :: r) (i := 1) (by simp)
theorem getM_mapN {f : Nat → Int} : ∀ {l : List Nat} {y : Nat}, y ∈ l → getM (l.map fun (x : Nat) => (((x : Nat) : Int), f x)) ((y : Nat) : Int) = some (f y)
  | a :: r, y, h => by
    rw [List.map_cons, getM]
    by_cases e : a = y
    · rw [if_pos (by rw [e]), e]
    · rw [if_neg (by intro z; exact e (by omega))]
      exact getM_mapN ((List.mem_cons.mp h).resolve_left (Ne.symm e))
theorem setsA_len {g : Nat → Int} : ∀ (os : List Nat) (sz : List Int), (os.foldl (fun sz' a => sz'.set (3 * a) (g a)) sz).length = sz.length
  | [], _ => rfl
  | b :: r, sz => by rw [List.foldl_cons, setsA_len r, List.length_set]
theorem level_eq {n : Nat} {sub most : Tab} {ks : List Kd} {req : List Int} {size : Int} {sz : List Int} {lv : Int} (F : Nat → Int) (hF : ∀ a, countIn n sub ks sz (nounOf (ks.getD a (.one 0))) = F a) : level n sub most ks req (size, sz) lv = (1 + maxOf size ((openAt sub most req ks lv).map F), (openAt sub most req ks lv).foldl (fun sz' a => sz'.set (3 * a) (1 + maxOf size ((openAt sub most req ks lv).map F) - F a)) sz) := by
  have hF' : (fun a => countIn n sub ks sz (nounOf (ks.getD a (.one 0)))) = F := funext hF
  unfold level
  simp only [List.map_map, Function.comp_def, hF, List.foldl_map]
/-- kinds of the signature's nouns -/
def KdsOk (n : Nat) (ks : List Kd) : Prop := ks.length ≤ 20 ∧ ∀ x, Kd.one x ∈ ks → Nn n x
def R_sizes_of : List D → D → Prop := fun ds r => ∃ (n m : Nat) (ps : List Sen) (ks : List Kd), ds = [sigD n m, sensD ps, .lst (ks.map kindD)] ∧ Prem n m ps ∧ KdsOk n ks ∧ (ones ks).Nodup ∧ r = .lst ((sizesOf n (tableOf n ps).1 (tableOf n ps).2 ks).map .int)
local macro_rules | `(tactic| walk_at "nf") => `(tactic| first | refine nfS (δ' := [_, _, _, _, _, _, _, _, _, _, _, _, _, _, _, _, _, _, _]) rfl ?_ | refine nfE (δ' := [_, _, _, _, _, _, _, _, _, _, _, _, _, _, _, _, _, _, _]) rfl ?_ | refine nfT (δ' := [_, _, _, _, _, _, _, _, _, _, _, _, _, _, _, _, _, _, _]) rfl ?_ | refine nfTs (δ' := [_, _, _, _, _, _, _, _, _, _, _, _, _, _, _, _, _, _, _]) rfl ?_ | refine nfI (δ' := [_, _, _, _, _, _, _, _, _, _, _, _, _, _, _, _, _, _, _]) rfl ?_ | refine nfG (δ' := [_, _, _, _, _, _, _, _, _, _, _, _, _, _, _, _, _, _, _]) rfl ?_ | refine nfX (δ' := [_, _, _, _, _, _, _, _, _, _, _, _, _, _, _, _, _, _, _]) rfl ?_ | refine nfXO (δ' := [_, _, _, _, _, _, _, _, _, _, _, _, _, _, _, _, _, _, _]) rfl ?_)
theorem fn_sizes_of (T : Txt K mg) : FnP P w K mg base "sizes_of" 3 R_sizes_of := by
  have F1 : FnP P w K mg base "table_of" 2 R_table_of := fn_table_of T
  have F2 : FnP P w K mg base "above" 2 R_above := fn_above T
  have F3 : FnP P w K mg base "is_plain" 1 R_is_plain := fn_is_plain T
  refine fn_pure T.d_sizes_of sc_sizes_of (fun _ _ _ _ _ _ us hl => match us, hl with | [_, _, _], _ => rfl) (fun ds r ⟨_, _, _, _, h, _⟩ => by rw [h]; rfl) ?_
  rintro ds r ⟨n, m, ps, ks, rfl, ok, ⟨hk20, hkn⟩, hnd, rfl⟩ f cdv A outer s0 H E hr
  have nd := sc_sizes_of.nd
  have hn := ok.1.2.1
  have z : ∀ n : Nat, n ≤ 1000 → n < sizeLine := fun n h => Nat.lt_of_le_of_lt h (by decide)
  have hpl : ∀ k ∈ ks, ∀ x, k = .one x → 0 ≤ x ∧ x < 100 := fun k hk x e => by
    subst e
    have := hkn x hk
    unfold Nn at this
    omega
  walk_at "nf"
  refine sd_asg (is := [3, 4]) ?_
  walk_at "w"
  refine ⟨_, ⟨n, m, ps, rfl, ok, rfl⟩, ?_⟩
  refine pwg_pair nd rfl rfl rfl (by walk_at "v") (by walk_at "v") ?_
  generalize (tableOf n ps).1 = sub at *
  generalize (tableOf n ps).2 = most at *
  walk_at "nf"
  -- nouns
  refine sd_setN nd rfl (by walk_at "v") ?_
  refine pw_lcM (own := [("kind", 7)]) rfl nd (blk_of sc_sizes_of rfl rfl (by decide +kernel)) (pwi_list ?_)
  walk_at "w"
  refine ⟨Kd, ks, kindD, fun k => intsD (above sub k n), [7], rfl, by decide, ?_, ?_⟩
  · intro k hk _ _ _ _ _
    refine pwg_nm nd rfl (by walk_at "v") ?_
    intro _ _ _ _ _; walk_at "nf"
    walk_at "w"
    exact ⟨_, ⟨n, m, sub, k, rfl, hn, rfl⟩, rfl⟩
  -- sizes
  walk_at "w"
  refine sd_for (is := [7]) PassesOwn.never rfl (pwi_list ?_)
  walk_at "w"
  refine ⟨Kd, ks, kindD, fun i δ' => ∃ c7, δ' = [.im (sigD n m), .im (sensD ps), .im (.lst (ks.map kindD)), .im (.tab sub), .im (.tab most), .im (.lst (ks.map fun k => intsD (above sub k n))), .ow (.lst ((sizes0 sub (ks.take i)).map .int)), c7, .un, .un, .un, .un, .un, .un, .un, .un, .un, .un, .un], rfl, ⟨_, rfl⟩, ?_, ?_⟩
  · rintro i k δ' hk ⟨c7, rfl⟩
    dsimp only
    have ei : sizes0 sub (ks.take (i + 1)) = sizes0 sub (ks.take i) ++ [if isPlain sub k then 0 else 1, 1, 1] := flatMap_snoc (f := fun k => [if isPlain sub k then (0 : Int) else 1, 1, 1]) hk
    have hl := sizes0_len sub (ks.take i)
    rw [List.length_take] at hl
    rw [ei]
    generalize sizes0 sub (ks.take i) = l0 at *
    refine pwg_nm nd rfl (by walk_at "v") ?_
    walk_at "nf"
    refine sd_extendN rfl rfl (by walk_at "v") ?_
    refine pw_lst (pwa_cons (pw_ife (pwt_val (fun _ => rfl) ?_)))
    walk_at "w"
    refine ⟨_, ⟨sub, k, rfl, hpl k (List.mem_of_getElem? hk), rfl⟩, _, rfl, fun h => ?_, fun h => ?_⟩
    · walk_at "w"
      refine ⟨Nat.le_of_lt (z _ ?_), ?_⟩
      · rw [List.length_map]
        simp only [List.length_cons, List.length_nil]
        omega
      · walk_at "w"
        refine ⟨.im (kindD k), ?_⟩
        rw [h]
        simp only [List.map_append]
        rfl
    · walk_at "w"
      refine ⟨Nat.le_of_lt (z _ ?_), ?_⟩
      · rw [List.length_map]
        simp only [List.length_cons, List.length_nil]
        omega
      · walk_at "w"
        refine ⟨.im (kindD k), ?_⟩
        rw [h]
        simp only [List.map_append]
        rfl
  · rintro δ' ⟨c7, rfl⟩
    rw [List.take_length]
    -- required
    have hones : ∀ y ∈ ones ks, Nn n y := fun y hy => hkn y (mem_ones.mp hy)
    have hon : (ones ks).length ≤ n := by
      have := nodup_sub_len (m := rgI n) hnd fun x hx => mem_rgI.mpr (hones x hx)
      rwa [len_rgI] at this
    refine sd_setN nd rfl (by walk_at "v") ?_
    refine pw_lc (own := [("kind", 7)]) rfl nd (blk_of sc_sizes_of rfl rfl (by decide +kernel)) (pwi_list ?_)
    walk_at "w"
    refine ⟨Kd, ks, kindD, fun k => (match k with | .one x => some x | _ => none : Option Int).map D.int, [7], rfl, by decide, ?_, ?_⟩
    · intro k hk _ _ _ _ _
      refine pwg_nm nd rfl (by walk_at "v") ?_
      intro _ _ _ _ _; walk_at "nf"
      refine pwts_one ?_
      cases k with
      | one x =>
        walk_at "w"
        intro _ _ _ _ _; walk_at "nf"
        walk_at "w"
      | _ => walk_at "w"
    rw [fm_map]
    show Sd _ _ (List.set _ 8 (.im (.lst ((ones ks).map D.int)))) _ _
    generalize hreq : ones ks = req at *
    walk_at "nf"
    -- levels
    refine sd_setN nd rfl (by walk_at "v") ?_
    refine pw_dc (own := [("noun", 15)]) rfl nd (blk_of sc_sizes_of rfl rfl (by decide +kernel)) (pwi_list ?_)
    walk_at "w"
    refine ⟨Int, req, D.int, fun x => (x, levelOf most req x), [15], rfl, by decide, ?_, ?_, ?_⟩
    · rw [List.map_id']; exact hnd
    · intro x hx _ _ _ _ _
      refine pwg_nm nd rfl (by walk_at "v") ?_
      intro _ _ _ _ _; walk_at "nf"
      walk_at "w"
      intro _ _ _ _ _; walk_at "nf"
      walk_at "w"
      refine pw_lc (own := [("other", 16)]) rfl nd (blk_in sc_sizes_of rfl (by decide +kernel)) (pwi_list ?_)
      walk_at "w"
      refine ⟨Int, req, D.int, fun o => if (has most x o) = true then some (D.int o) else none, [16], rfl, by decide, ?_, ?_⟩
      · intro o ho _ _ _ _ _
        refine pwg_nm nd rfl (by walk_at "v") ?_
        intro _ _ _ _ _; walk_at "nf"
        refine pwts_one (pwt_inT (hu_of hr) ?_)
        walk_at "w"
        refine ⟨fun h => ift h, fun h => ?_⟩
        intro _ _ _ _ _; walk_at "nf"
        walk_at "w"
        exact ift' h
      · rw [fm_filter]
        walk_at "w"
        show D.int ((((req.filter fun o => has most x o).map D.int).length : Nat) : Int) = _
        rw [List.length_map]
        rfl
    walk_at "w"
    -- the levels in order
    refine sd_for (is := [11]) PassesOwn.never rfl (pwi_list ?_)
    refine pw_sortedSetL rfl T.b_sorted T.b_set ?_
    refine pw_lcM (own := [("noun", 15)]) rfl nd (blk_of sc_sizes_of rfl rfl (by decide +kernel)) (pwi_list ?_)
    walk_at "w"
    refine ⟨Int, req, D.int, fun x => .int (levelOf most req x), [15], rfl, by decide, ?_, ?_⟩
    · intro x hx _ _ _ _ _
      refine pwg_nm nd rfl (by walk_at "v") ?_
      intro _ _ _ _ _; walk_at "nf"
      refine pw_getM (hu_of hr) ?_
      walk_at "w"
      exact ⟨_, _, _, rfl, rfl, getM_map hx, rfl⟩
    refine ⟨req.map (levelOf most req), levels most req, ?_, ?_, levels_sorted, fun k => mem_levels, ?_⟩
    · rw [List.map_map]; rfl
    · rw [List.length_map]; omega
    have eS : sizesOf n sub most ks = ((levels most req).foldl (level n sub most ks req) (0, sizes0 sub ks)).2 := by rw [← hreq]; rfl
    refine ⟨_, rfl, Int, levels most req, D.int, fun i δ' => ∃ c7 c11 c12 c13 c14 c15 c16 c17 c18, δ' = [.im (sigD n m), .im (sensD ps), .im (.lst (ks.map kindD)), .im (.tab sub), .im (.tab most), .im (.lst (ks.map fun k => intsD (above sub k n))), .ow (.lst ((((levels most req).take i).foldl (level n sub most ks req) (0, sizes0 sub ks)).2.map .int)), c7, .im (.lst (req.map .int)), .im (.imp (req.map fun x => (x, levelOf most req x))), .im (.int (((levels most req).take i).foldl (level n sub most ks req) (0, sizes0 sub ks)).1), c11, c12, c13, c14, c15, c16, c17, c18], rfl, ⟨_, _, _, _, _, _, _, _, _, rfl⟩, ?_, ?_⟩
    · rintro i lv δ' hlv ⟨c7, c11, c12, c13, c14, c15, c16, c17, c18, rfl⟩
      dsimp only
      rw [take_foldl hlv]
      have hlen := levels_len (n := n) (s := sub) (m := most) (ks := ks) (req := req) ((levels most req).take i) (0, sizes0 sub ks)
      rw [sizes0_len] at hlen
      generalize ((levels most req).take i).foldl (level n sub most ks req) (0, sizes0 sub ks) = st at *
      obtain ⟨size, sz⟩ := st
      dsimp only at hlen ⊢
      refine pwg_nm nd rfl (by walk_at "v") ?_
      walk_at "nf"
      refine sd_setLc rfl nd (blk_of (own := [("at", 14), ("kind", 7)]) sc_sizes_of rfl rfl (by decide +kernel)) (i := 12) rfl (lcx (pwi_enum T.b_enumerate ?_))
      walk_at "w"
      refine ⟨Kd × Nat, ks.zipIdx, fun p => .tup [.int ((p.2 : Nat) : Int), kindD p.1], fun p => ((if isPlain sub p.1 && decide (levelOf most req (nounOf p.1) = lv) then some p.2 else none : Option Nat)).map fun a => D.int ((a : Nat) : Int), [14, 7], ?_, by decide, ?_, ?_⟩
      · rw [enD_zip, List.zipIdx_map, List.map_map]; rfl
      · rintro ⟨k, a⟩ hp _ _ _ _ _
        have hka : ks[a]? = some k := List.mem_zipIdx_iff_getElem?.mp hp
        have hkm := List.mem_of_getElem? hka
        refine pwg_pair nd rfl rfl rfl (by walk_at "v") (by walk_at "v") ?_
        intro _ _ _ _ _; walk_at "nf"
        refine pwts_one (pwt_w (pww_and (pwt_val (fun _ => rfl) ?_)))
        walk_at "w"
        refine ⟨_, ⟨sub, k, rfl, hpl k hkm, rfl⟩, _, rfl, fun h => ?_, fun h => ?_⟩
        · obtain ⟨x, rfl⟩ := plain_one h
          refine pww_and1 (pwt_eq (pw_getM (hu_of hr) ?_))
          walk_at "w"
          refine ⟨_, _, _, rfl, rfl, getM_map (by rw [← hreq]; exact mem_ones.mpr hkm), ?_⟩
          walk_at "w"
          have e0 : (isPlain sub (.one x) && decide (levelOf most req x = lv)) = decide (levelOf most req x = lv) := by rw [h, Bool.true_and]
          refine ⟨fun h2 => ?_, fun h2 => ?_⟩
          · show Option.map _ (if (isPlain sub (.one x) && decide (levelOf most req x = lv)) = true then some a else none) = none
            rw [e0, h2]; rfl
          · intro _ _ _ _ _; walk_at "nf"
            walk_at "w"
            show Option.map _ (if (isPlain sub (.one x) && decide (levelOf most req x = lv)) = true then some a else none) = _
            rw [e0, h2]; rfl
        · refine ⟨fun _ => ?_, fun z => absurd z Bool.false_ne_true⟩
          show Option.map _ (if (isPlain sub k && decide (levelOf most req (nounOf k) = lv)) = true then some a else none) = none
          rw [h]; rfl
      have eO : (ks.zipIdx.filterMap fun p => ((if isPlain sub p.1 && decide (levelOf most req (nounOf p.1) = lv) then some p.2 else none : Option Nat)).map fun a => D.int ((a : Nat) : Int)) = (openAt sub most req ks lv).map fun a => D.int ((a : Nat) : Int) := fm_map _
      rw [eO]
      have hopen : ∀ a ∈ openAt sub most req ks lv, ∃ k, ks[a]? = some k := fun a ha => by
        obtain ⟨k, h, _⟩ := mem_openAt.mp ha
        exact ⟨k, h⟩
      have hond := openAt_nodup (s := sub) (m := most) (req := req) (ks := ks) (lv := lv)
      obtain ⟨cnt, eC⟩ : ∃ F : Nat → Int, ∀ a, countIn n sub ks sz (nounOf (ks.getD a (.one 0))) = F a := ⟨_, fun _ => rfl⟩
      have eL := level_eq (n := n) (sub := sub) (most := most) (ks := ks) (req := req) (size := size) (sz := sz) (lv := lv) cnt eC
      rw [eL]
      have holen : (openAt sub most req ks lv).length ≤ 20 := by
        unfold openAt
        refine Nat.le_trans (List.length_filterMap_le _ _) ?_
        rw [List.length_zipIdx]; exact hk20
      generalize openAt sub most req ks lv = opens at *
      walk_at "nf"
      refine sd_newIN nd rfl (by walk_at "v") (Nat.le_of_ble_eq_true rfl) ?_
      walk_at "nf"
      refine sd_for (is := [14]) PassesOwn.never rfl (pwi_list ?_)
      walk_at "w"
      refine ⟨Nat, opens, fun a => .int ((a : Nat) : Int), fun j δ' => ∃ c14, δ' = [.im (sigD n m), .im (sensD ps), .im (.lst (ks.map kindD)), .im (.tab sub), .im (.tab most), .im (.lst (ks.map fun k => intsD (above sub k n))), .ow (.lst (sz.map .int)), c7, .im (.lst (req.map .int)), .im (.imp (req.map fun x => (x, levelOf most req x))), .im (.int size), .im (.int lv), .im (.lst (opens.map fun a => .int ((a : Nat) : Int))), .ow (.imp ((opens.take j).map fun a => (((a : Nat) : Int), cnt a))), c14, c15, c16, c17, c18], rfl, ⟨c14, rfl⟩, ?_, ?_⟩
      · rintro j a δ' haj ⟨c14, rfl⟩
        dsimp only
        obtain ⟨k, hka⟩ := hopen a (List.mem_of_getElem? haj)
        have hkd : ks.getD a (.one 0) = k := by rw [List.getD_eq_getElem?_getD, hka]; rfl
        have ej : ((opens.take (j + 1)).map fun a => (((a : Nat) : Int), cnt a)) = ((opens.take j).map fun a => (((a : Nat) : Int), cnt a)) ++ [(((a : Nat) : Int), cnt a)] := by
          rw [List.take_add_one, haj, List.map_append]; rfl
        rw [ej]
        refine pwg_nm nd rfl (by walk_at "v") ?_
        walk_at "nf"
        refine sd_putM (hu_of hr) rfl rfl (by walk_at "v") (z _ ?_) ?_
        · rw [List.length_map, List.length_take]; omega
        refine pw_borrow 6 rfl rfl ?_
        walk_at "w"
        refine pw_lc (own := [("group", 17), ("many", 18)]) rfl nd (blk_of sc_sizes_of rfl rfl (by decide +kernel)) (pwi_enum T.b_enumerate ?_)
        walk_at "w"
        refine ⟨Int × Nat, sz.zipIdx, fun p => .tup [.int ((p.2 : Nat) : Int), .int p.1], fun p => ((if nounOf k ∈ above sub (ks.getD (p.2 / 3) (.one 0)) n then some p.1 else none : Option Int)).map D.int, [17, 18], ?_, by decide, ?_, ?_⟩
        · rw [enD_zip, List.zipIdx_map, List.map_map]; rfl
        · rintro ⟨v, g⟩ hp _ _ _ _ _
          have hvg : sz[g]? = some v := List.mem_zipIdx_iff_getElem?.mp hp
          have hg : g < sz.length := (List.getElem?_eq_some_iff.mp hvg).1
          have hg3 : g / 3 < ks.length := by omega
          have hk3 : ks[g / 3]? = some ks[g / 3] := List.getElem?_eq_getElem hg3
          have hgd : ks.getD (g / 3) (.one 0) = ks[g / 3] := by rw [List.getD_eq_getElem?_getD, hk3]; rfl
          refine pwg_pair nd rfl rfl rfl (by walk_at "v") (by walk_at "v") ?_
          intro _ _ _ _ _; walk_at "nf"
          refine pwts_one (pwt_inI (pw_ix ?_))
          walk_at "w"
          refine ⟨_, _, _, rfl, rfl, atI_map hka, ?_⟩
          walk_at "w"
          obtain ⟨s', r', ek⟩ := kind_noun k
          refine ⟨_, 1, .int (nounOf k), by rw [ek]; rfl, rfl, at1, ?_⟩
          walk_at "w"
          refine ⟨⟨by decide, by decide⟩, ?_⟩
          have eg : ((g : Nat) : Int) / 3 = ((g / 3 : Nat) : Int) := rfl
          rw [eg]
          refine ⟨_, _, _, rfl, rfl, atI_map hk3, ?_⟩
          refine ⟨_, above sub ks[g / 3] n, rfl, rfl, fun h => ?_, fun h => ?_⟩
          · show Option.map _ (if nounOf k ∈ above sub (ks.getD (g / 3) (.one 0)) n then some v else none) = none
            rw [hgd, if_neg (of_decide_eq_false h)]; rfl
          · intro _ _ _ _ _; walk_at "nf"
            walk_at "w"
            show Option.map _ (if nounOf k ∈ above sub (ks.getD (g / 3) (.one 0)) n then some v else none) = _
            rw [hgd, if_pos (of_decide_eq_true h)]; rfl
        walk_at "w"
        refine ⟨_, mmS, rfl, ?_⟩
        walk_at "w"
        have ec : (sz.zipIdx.filterMap fun p => if nounOf k ∈ above sub (ks.getD (p.2 / 3) (.one 0)) n then some p.1 else none).sum = cnt a := by
          rw [← eC, hkd]; rfl
        refine ⟨?_, ?_⟩
        · rw [List.map_map]
          intro hm
          obtain ⟨b, hb, e⟩ := List.mem_map.mp hm
          have e' : b = a := by
            have : ((b : Nat) : Int) = ((a : Nat) : Int) := e
            omega
          subst e'
          obtain ⟨jj, hjj, e2⟩ := List.getElem_of_mem hb
          rw [List.length_take] at hjj
          rw [List.getElem_take] at e2
          obtain ⟨hj1, hj2⟩ := List.getElem?_eq_some_iff.mp haj
          have := (List.getElem_inj hond (h₀ := by omega) (h₁ := hj1)).mp (e2.trans hj2.symm)
          omega
        · rw [ec]
          walk_at "w"
          exact ⟨.im (.int ((a : Nat) : Int)), rfl⟩
      · rintro δ' ⟨c14', rfl⟩
        rw [List.take_length]
        refine sd_setN nd rfl (by walk_at "v") ?_
        refine pw_borrow 13 rfl rfl (pw_add (pw_int (pw_maxL rfl T.b_max (pwa_cons (pw_catL ?_)))))
        walk_at "w"
        refine pw_lcM (own := [("at", 14)]) rfl nd (blk_of sc_sizes_of rfl rfl (by decide +kernel)) (pwi_list ?_)
        walk_at "w"
        refine ⟨Nat, opens, fun a => .int ((a : Nat) : Int), fun a => .int (cnt a), [14], rfl, by decide, ?_, ?_⟩
        · intro a ha _ _ _ _ _
          refine pwg_nm nd rfl (by walk_at "v") ?_
          intro _ _ _ _ _; walk_at "nf"
          refine pw_getM (hu_of hr) ?_
          walk_at "w"
          exact ⟨_, _, _, rfl, rfl, getM_mapN ha, rfl⟩
        refine ⟨_, _, rfl, rfl, ?_, ?_⟩
        · rw [List.length_map]
          exact Nat.le_of_lt (z _ (by simp only [List.length_cons, List.length_nil]; omega))
        walk_at "w"
        refine ⟨size :: opens.map cnt, maxOf size (opens.map cnt), ?_, maxOf_mem _ _, maxOf_le _ _, _, _, rfl, rfl, rfl, ?_⟩
        · rw [List.map_cons, List.map_map]; rfl
        generalize 1 + maxOf size (opens.map cnt) = size2
        walk_at "nf"
        refine sd_for (is := [14]) PassesOwn.never rfl (pwi_list ?_)
        walk_at "w"
        refine ⟨Nat, opens, fun a => .int ((a : Nat) : Int), fun j δ' => ∃ c14, δ' = [.im (sigD n m), .im (sensD ps), .im (.lst (ks.map kindD)), .im (.tab sub), .im (.tab most), .im (.lst (ks.map fun k => intsD (above sub k n))), .ow (.lst (((opens.take j).foldl (fun sz' a => sz'.set (3 * a) (size2 - cnt a)) sz).map .int)), c7, .im (.lst (req.map .int)), .im (.imp (req.map fun x => (x, levelOf most req x))), .im (.int size2), .im (.int lv), .im (.lst (opens.map fun a => .int ((a : Nat) : Int))), .ow (.imp (opens.map fun a => (((a : Nat) : Int), cnt a))), c14, c15, c16, c17, c18], rfl, ⟨_, rfl⟩, ?_, ?_⟩
        · rintro j a δ' haj ⟨c14, rfl⟩
          dsimp only
          rw [take_foldl haj]
          obtain ⟨k, hka⟩ := hopen a (List.mem_of_getElem? haj)
          have hal := (List.getElem?_eq_some_iff.mp hka).1
          have hsl : ((opens.take j).foldl (fun sz' a => sz'.set (3 * a) (size2 - cnt a)) sz).length = sz.length := by
            exact setsA_len (opens.take j) sz
          generalize (opens.take j).foldl (fun sz' a => sz'.set (3 * a) (size2 - cnt a)) sz = sz2 at *
          refine pwg_nm nd rfl (by walk_at "v") ?_
          walk_at "nf"
          refine sd_putL rfl rfl (by walk_at "v") ?_
          refine pw_borrow 13 rfl rfl (pw_sub (pw_nm rfl (by walk_at "v") rfl (pw_getM (hu_of hr) ?_)))
          walk_at "w"
          refine ⟨_, _, _, rfl, rfl, getM_mapN (List.mem_of_getElem? haj), _, _, rfl, rfl, rfl, ?_⟩
          refine pw_mul ?_
          walk_at "w"
          refine ⟨.inl ⟨by decide, by decide⟩, ?_⟩
          have e3 : (3 : Int) * ((a : Nat) : Int) = ((3 * a : Nat) : Int) := by omega
          refine ⟨_, 3 * a, rfl, ?_, ?_⟩
          · rw [e3, List.length_map, hsl]
            exact ixN_nat (by omega)
          · walk_at "w"
            refine ⟨.im (.int ((a : Nat) : Int)), ?_⟩
            rw [List.map_set]
        · rintro δ' ⟨c14, rfl⟩
          rw [List.take_length]
          exact sd_nil ⟨_, _, _, _, _, _, _, _, _, rfl⟩
    · rintro δ' ⟨c7, c11, c12, c13, c14, c15, c16, c17, c18, rfl⟩
      rw [List.take_of_length_le (Nat.le_refl _), ← eS]
      refine sd_freeze 6 rfl rfl ?_
      walk_at "w"
end
end AL
namespace AL
open PySem PySem.Spec PyProof.Rows L2 Mi
local macro_rules | `(tactic| walk_at "v") => `(tactic| first | exact Or.inl rfl | exact Or.inr rfl | exact Or.inr (Or.inl rfl) | exact Or.inr (Or.inr rfl))
local macro_rules | `(tactic| walk_at "we") => `(tactic| first
  | refine pw_nm rfl (by walk_at "v") rfl ?_
  | refine pw_int ?_
  | refine pw_str ?_
  | refine pw_bl ?_
  | (refine gEcmp ?_; walk_at "wc")
  | refine pw_ix ?_
  | (refine gEcall ?_; walk_at "wf")
  | refine pw_tup ?_
  | refine AL.pw_and ?_
  | refine AL.pw_or ?_
  | refine AL.pw_one ?_
  | refine AL.pw_not ?_
  | (refine gEbin ?_; walk_at "wb")
  | refine pw_slice ?_
  | refine pw_lst ?_
  | refine pw_ife ?_
  | refine pw_neg ?_
  | refine pw_non ?_
  | refine pw_gint rfl (Txt.c_MOST_NOUNS (by assumption)) ?_
  | refine pw_gint rfl (Txt.c_MOST_VERBS (by assumption)) ?_
  | refine pw_gint rfl (Txt.c_MOST_PREMISES (by assumption)) ?_
  | refine pw_gint rfl (Txt.c_MOST_SPEAKER (by assumption)) ?_
  | refine pw_gint rfl (Txt.c_MOST_ASSERTIONS (by assumption)) ?_
  | refine pw_gint rfl (Txt.c_MOST_COMMANDS (by assumption)) ?_
  )
local macro_rules | `(tactic| walk_at "wc") => `(tactic| first
  | refine pw_eqS (by assumption) ?_
  | refine pw_eq ?_
  | refine pw_ne ?_
  | refine pw_chainLe ?_
  | refine pw_lt ?_
  | refine pw_le ?_
  | refine pw_gt ?_
  | refine pw_ge ?_
  | refine pw_inG (Txt.c_TWO_NOUNS (by assumption)) rfl ?_
  | refine pw_inG (Txt.c_QUANTITIES (by assumption)) rfl ?_
  )
local macro_rules | `(tactic| walk_at "wf") => `(tactic| first
  | refine pw_len (Txt.b_len (by assumption)) ?_
  | refine pw_isi_int (Txt.b_isinstance (by assumption)) (Txt.b_int (by assumption)) ?_
  | refine pw_isi_bool (Txt.b_isinstance (by assumption)) (Txt.b_bool (by assumption)) ?_
  | refine pw_isi_str (Txt.b_isinstance (by assumption)) (Txt.b_str (by assumption)) ?_
  | refine pw_isi_tuple (Txt.b_isinstance (by assumption)) (Txt.b_tuple (by assumption)) ?_
  | refine pw_isi_list (Txt.b_isinstance (by assumption)) (Txt.b_list (by assumption)) ?_
  | refine pw_tuple (Txt.b_tuple (by assumption)) ?_
  | refine pw_any rfl (Txt.b_any (by assumption)) ?_
  | refine pw_all rfl (Txt.b_all (by assumption)) ?_
  | refine pw_sum rfl (Txt.b_sum (by assumption)) ?_
  | refine pw_min2 rfl (Txt.b_min (by assumption)) ?_
  | refine pw_max2 rfl (Txt.b_max (by assumption)) ?_
  | refine pw_toInt (Txt.b_int (by assumption)) ?_
  | refine pw_call (by assumption) (by assumption) (by decide) rfl ?_
  )
local macro_rules | `(tactic| walk_at "wb") => `(tactic| first
  | refine pw_add ?_
  | refine pw_sub ?_
  | refine pw_mul ?_
  | refine pw_fdiv ?_
  | refine pw_mod ?_
  )
local macro_rules | `(tactic| walk_at "wt") => `(tactic| first
  | (refine gTcmp ?_; walk_at "wd")
  | refine pwt_w ?_
  | refine pwt_not ?_
  | refine pwt_tru (fun _ => rfl) ?_
  )
local macro_rules | `(tactic| walk_at "wd") => `(tactic| first
  | refine pwt_eqS (by assumption) ?_
  | refine pwt_eq ?_
  | refine pwt_ne ?_
  | refine pwt_lt ?_
  | refine pwt_le ?_
  | refine pwt_gt ?_
  | refine pwt_ge ?_
  | refine pwt_inG (Txt.c_TWO_NOUNS (by assumption)) rfl ?_
  | refine pwt_inG (Txt.c_QUANTITIES (by assumption)) rfl ?_
  | refine pwt_inTup ?_
  | refine pwt_inLst ?_
  )
local macro_rules | `(tactic| walk_at "wl") => `(tactic| first
  | refine br_t rfl ?_
  | refine br_f rfl ?_
  | refine rb_t rfl ?_
  | refine rb_f rfl ?_
  | refine ⟨_, rfl, ?_⟩
  | refine ⟨_, _, rfl, rfl, ?_⟩
  | refine ⟨_, _, rfl, ?_⟩
  | refine ⟨rfl, ?_⟩
  | refine ⟨dp_ok _ rfl rfl, ?_⟩
  | refine ⟨_, _, _, rfl, rfl, rfl, ?_⟩
  | refine ⟨le_line (Nat.le_of_ble_eq_true rfl), ?_⟩
  | refine ⟨_, _, _, rfl, rfl, ?_⟩
  | exact rfl
  )
local macro_rules | `(tactic| walk_at "w1") => `(tactic| first
  | (refine gE ?_; walk_at "we")
  | (refine gT ?_; walk_at "wt")
  | (refine gA ?_; first | refine pwa_cons ?_ | refine pwa_nil ?_)
  | (refine gW ?_; first | refine pww_and ?_ | refine pww_or ?_ | refine pww_and1 ?_ | refine pww_or1 ?_)
  | (refine gS ?_; walk_at "nf"; first | refine sd_ret ?_ | refine sd_if ?_ | refine sd_newLN (by assumption) rfl (by walk_at "v") (Nat.le_of_ble_eq_true rfl) ?_ | refine sd_setN (by assumption) rfl (by walk_at "v") ?_ | refine sd_appendN rfl rfl (by walk_at "v") ?_ | refine sd_nil ?_)
  | (refine gP ?_; first | refine pwp_none ?_ | refine pwp_some ?_)
  | walk_at "wl"
  )
local macro_rules | `(tactic| walk_at "w") => `(tactic| repeat walk_at "w1")

section
variable {P : Program} {w : World} {K : PySem.W.Frag} {mg : Str → Option Value} {base : Heap}
def R_done_to : List D → D → Prop := fun ds r => ∃ (W : List (List Wd)) (g : Nat) (ws : List Wd), ds = [.lst (W.map fun ws => .lst (ws.map wdD)), .int ((g : Nat) : Int)] ∧ W[g / 3]? = some ws ∧ ws.length ≤ 20 ∧ r = intsD (doneTo ws g)
local macro_rules | `(tactic| walk_at "nf") => `(tactic| first | refine nfS (δ' := [_, _, _, _, _, _]) rfl ?_ | refine nfE (δ' := [_, _, _, _, _, _]) rfl ?_ | refine nfT (δ' := [_, _, _, _, _, _]) rfl ?_ | refine nfTs (δ' := [_, _, _, _, _, _]) rfl ?_ | refine nfI (δ' := [_, _, _, _, _, _]) rfl ?_ | refine nfG (δ' := [_, _, _, _, _, _]) rfl ?_ | refine nfX (δ' := [_, _, _, _, _, _]) rfl ?_ | refine nfXO (δ' := [_, _, _, _, _, _]) rfl ?_)
theorem fn_done_to (T : Txt K mg) : FnP P w K mg base "done_to" 1 R_done_to := by
  refine fn_pure T.d_done_to sc_done_to (fun _ _ _ _ _ _ us hl => match us, hl with | [_, _], _ => rfl) (fun ds r ⟨_, _, _, h, _⟩ => by rw [h]; rfl) ?_
  rintro ds r ⟨W, g, ws, rfl, hW, hw, rfl⟩ f cdv A outer s0 H E hr
  have nd := sc_done_to.nd
  have z : ∀ n : Nat, n ≤ 1000 → n < sizeLine := fun n h => Nat.lt_of_le_of_lt h (by decide)
  let F : Wd × Nat → Nat → Option Int := fun p l => if p.1 = .yes ∨ (p.1 = .free ∧ l = (g + 1) % 3) then some ((3 * p.2 + l : Nat) : Int) else none
  have eD : doneTo ws g = ws.zipIdx.flatMap fun p => [0, 1, 2].filterMap (F p) := rfl
  have hb : ∀ i, ((ws.zipIdx.take i).flatMap fun p => [0, 1, 2].filterMap (F p)).length ≤ 60 := fun i => by
    have := flat_le (k := 3) (l := ws.zipIdx.take i) (f := fun p => [0, 1, 2].filterMap (F p)) fun p _ => List.length_filterMap_le _ _
    rw [List.length_take, List.length_zipIdx] at this
    omega
  walk_at "w"
  refine sd_for (is := [3, 4]) PassesOwn.never rfl (pwi_enum T.b_enumerate ?_)
  refine pwa_cons (pw_ix ?_)
  walk_at "w"
  refine ⟨⟨by decide, by decide⟩, ?_⟩
  have eg : ((g : Nat) : Int) / 3 = ((g / 3 : Nat) : Int) := rfl
  rw [eg]
  refine ⟨_, _, _, rfl, rfl, atI_map hW, ?_⟩
  walk_at "w"
  refine ⟨Wd × Nat, ws.zipIdx, fun p => .tup [.int ((p.2 : Nat) : Int), wdD p.1], fun i δ' => ∃ c3 c4 c5, δ' = [.im (.lst (W.map fun ws => .lst (ws.map wdD))), .im (.int ((g : Nat) : Int)), .ow (.lst (((ws.zipIdx.take i).flatMap fun p => [0, 1, 2].filterMap (F p)).map .int)), c3, c4, c5], ?_, ⟨_, _, _, rfl⟩, ?_, ?_⟩
  · rw [enD_zip, List.zipIdx_map, List.map_map]; rfl
  · rintro i ⟨x, o⟩ δ' hx ⟨c3, c4, c5, rfl⟩
    dsimp only
    rw [flatMap_snoc hx]
    have hb1 := hb i
    generalize ((ws.zipIdx.take i).flatMap fun p => [0, 1, 2].filterMap (F p)) = l1 at *
    refine pwg_pair nd rfl rfl rfl (by walk_at "v") (by walk_at "v") ?_
    walk_at "nf"
    refine sd_for (is := [5]) PassesOwn.never rfl (pwi_GI T.c_COPIES rfl (le_line (by decide)) ?_)
    refine ⟨Nat, [0, 1, 2], fun l => .int ((l : Nat) : Int), fun j δ' => ∃ c5, δ' = [.im (.lst (W.map fun ws => .lst (ws.map wdD))), .im (.int ((g : Nat) : Int)), .ow (.lst ((l1 ++ ([0, 1, 2].take j).filterMap (F (x, o))).map .int)), .im (.int ((o : Nat) : Int)), .im (wdD x), c5], rfl, ⟨c5, ?_⟩, ?_, ?_⟩
    · rw [List.take_zero, List.filterMap_nil, List.append_nil]
    · rintro j l δ' hl ⟨c5, rfl⟩
      dsimp only
      have hj : ([0, 1, 2].take (j + 1)).filterMap (F (x, o)) = ([0, 1, 2].take j).filterMap (F (x, o)) ++ (F (x, o) l).toList := filterMap_snoc hl
      have hl2 := List.length_filterMap_le (F (x, o)) ([0, 1, 2].take j)
      rw [List.length_take] at hl2
      simp only [List.length_cons, List.length_nil] at hl2
      rw [hj]
      generalize ([0, 1, 2].take j).filterMap (F (x, o)) = l2 at *
      have put : ∀ {c5 : Cell}, F (x, o) l = some ((3 * o + l : Nat) : Int) → ∃ c5', [Cell.im (.lst (W.map fun ws => .lst (ws.map wdD))), .im (.int ((g : Nat) : Int)), .ow (.lst ((l1 ++ l2).map .int ++ [.int (3 * ((o : Nat) : Int) + ((l : Nat) : Int))])), .im (.int ((o : Nat) : Int)), .im (wdD x), c5] = [.im (.lst (W.map fun ws => .lst (ws.map wdD))), .im (.int ((g : Nat) : Int)), .ow (.lst ((l1 ++ (l2 ++ (F (x, o) l).toList)).map .int)), .im (.int ((o : Nat) : Int)), .im (wdD x), c5'] := fun {c5} h => by
        refine ⟨c5, ?_⟩
        rw [h, ← List.append_assoc]
        simp only [List.map_append]
        rfl
      have keep : ∀ {c5 : Cell}, F (x, o) l = none → ∃ c5', [Cell.im (.lst (W.map fun ws => .lst (ws.map wdD))), .im (.int ((g : Nat) : Int)), .ow (.lst ((l1 ++ l2).map .int)), .im (.int ((o : Nat) : Int)), .im (wdD x), c5] = [.im (.lst (W.map fun ws => .lst (ws.map wdD))), .im (.int ((g : Nat) : Int)), .ow (.lst ((l1 ++ (l2 ++ (F (x, o) l).toList)).map .int)), .im (.int ((o : Nat) : Int)), .im (wdD x), c5'] := fun {c5} h => by
        refine ⟨c5, ?_⟩
        rw [h, Option.toList_none, List.append_nil]
      refine pwg_nm nd rfl (by walk_at "v") ?_
      cases x with
      | yes =>
        walk_at "w"
        refine ⟨.inl ⟨by decide, by decide⟩, ?_⟩
        walk_at "w"
        refine ⟨z _ ?_, ?_⟩
        · rw [List.length_map, List.length_append]; omega
        walk_at "w"
        exact put (if_pos (.inl rfl))
      | free =>
        walk_at "w"
        refine ⟨by decide, ?_⟩
        walk_at "w"
        refine ⟨fun h => ?_, fun h => ?_⟩
        · have h1 := of_decide_eq_true h
          walk_at "w"
          refine ⟨.inl ⟨by decide, by decide⟩, ?_⟩
          walk_at "w"
          refine ⟨z _ ?_, ?_⟩
          · rw [List.length_map, List.length_append]; omega
          walk_at "w"
          exact put (if_pos (.inr ⟨rfl, by omega⟩))
        · have h1 := of_decide_eq_false h
          walk_at "w"
          exact keep (if_neg (by
            intro z
            rcases z with z | z
            · cases z
            · have := z.2
              exact h1 (by omega)))
      | _ =>
        walk_at "w"
        exact keep (if_neg (by simp))
    · rintro δ' ⟨c5, rfl⟩
      exact sd_nil ⟨_, _, _, rfl⟩
  · rintro δ' ⟨c3, c4, c5, rfl⟩
    rw [List.take_of_length_le (Nat.le_refl _), ← eD]
    refine sd_freeze 2 rfl rfl ?_
    walk_at "w"
end
end AL
namespace AL
open PySem PySem.Spec PyProof.Rows L2 Mi
local macro_rules | `(tactic| walk_at "v") => `(tactic| first | exact Or.inl rfl | exact Or.inr rfl | exact Or.inr (Or.inl rfl) | exact Or.inr (Or.inr rfl))
local macro_rules | `(tactic| walk_at "we") => `(tactic| first
  | refine pw_nm rfl (by walk_at "v") rfl ?_
  | refine pw_int ?_
  | refine pw_str ?_
  | refine pw_bl ?_
  | (refine gEcmp ?_; walk_at "wc")
  | refine pw_ix ?_
  | (refine gEcall ?_; walk_at "wf")
  | refine pw_tup ?_
  | refine AL.pw_and ?_
  | refine AL.pw_or ?_
  | refine AL.pw_one ?_
  | refine AL.pw_not ?_
  | (refine gEbin ?_; walk_at "wb")
  | refine pw_slice ?_
  | refine pw_lst ?_
  | refine pw_ife ?_
  | refine pw_neg ?_
  | refine pw_non ?_
  | refine pw_gint rfl (Txt.c_MOST_NOUNS (by assumption)) ?_
  | refine pw_gint rfl (Txt.c_MOST_VERBS (by assumption)) ?_
  | refine pw_gint rfl (Txt.c_MOST_PREMISES (by assumption)) ?_
  | refine pw_gint rfl (Txt.c_MOST_SPEAKER (by assumption)) ?_
  | refine pw_gint rfl (Txt.c_MOST_ASSERTIONS (by assumption)) ?_
  | refine pw_gint rfl (Txt.c_MOST_COMMANDS (by assumption)) ?_
  )
local macro_rules | `(tactic| walk_at "wc") => `(tactic| first
  | refine pw_eqS (by assumption) ?_
  | refine pw_eq ?_
  | refine pw_ne ?_
  | refine pw_chainLe ?_
  | refine pw_lt ?_
  | refine pw_le ?_
  | refine pw_gt ?_
  | refine pw_ge ?_
  | refine pw_inG (Txt.c_TWO_NOUNS (by assumption)) rfl ?_
  | refine pw_inG (Txt.c_QUANTITIES (by assumption)) rfl ?_
  )
local macro_rules | `(tactic| walk_at "wf") => `(tactic| first
  | refine pw_len (Txt.b_len (by assumption)) ?_
  | refine pw_isi_int (Txt.b_isinstance (by assumption)) (Txt.b_int (by assumption)) ?_
  | refine pw_isi_bool (Txt.b_isinstance (by assumption)) (Txt.b_bool (by assumption)) ?_
  | refine pw_isi_str (Txt.b_isinstance (by assumption)) (Txt.b_str (by assumption)) ?_
  | refine pw_isi_tuple (Txt.b_isinstance (by assumption)) (Txt.b_tuple (by assumption)) ?_
  | refine pw_isi_list (Txt.b_isinstance (by assumption)) (Txt.b_list (by assumption)) ?_
  | refine pw_tuple (Txt.b_tuple (by assumption)) ?_
  | refine pw_any rfl (Txt.b_any (by assumption)) ?_
  | refine pw_all rfl (Txt.b_all (by assumption)) ?_
  | refine pw_sum rfl (Txt.b_sum (by assumption)) ?_
  | refine pw_min2 rfl (Txt.b_min (by assumption)) ?_
  | refine pw_max2 rfl (Txt.b_max (by assumption)) ?_
  | refine pw_toInt (Txt.b_int (by assumption)) ?_
  | refine pw_call (by assumption) (by assumption) (by decide) rfl ?_
  )
local macro_rules | `(tactic| walk_at "wb") => `(tactic| first
  | refine pw_add ?_
  | refine pw_sub ?_
  | refine pw_mul ?_
  | refine pw_fdiv ?_
  | refine pw_mod ?_
  )
local macro_rules | `(tactic| walk_at "wt") => `(tactic| first
  | (refine gTcmp ?_; walk_at "wd")
  | refine pwt_w ?_
  | refine pwt_not ?_
  | refine pwt_tru (fun _ => rfl) ?_
  )
local macro_rules | `(tactic| walk_at "wd") => `(tactic| first
  | refine pwt_eqS (by assumption) ?_
  | refine pwt_eq ?_
  | refine pwt_ne ?_
  | refine pwt_lt ?_
  | refine pwt_le ?_
  | refine pwt_gt ?_
  | refine pwt_ge ?_
  | refine pwt_inG (Txt.c_TWO_NOUNS (by assumption)) rfl ?_
  | refine pwt_inG (Txt.c_QUANTITIES (by assumption)) rfl ?_
  | refine pwt_inTup ?_
  | refine pwt_inLst ?_
  )
local macro_rules | `(tactic| walk_at "wl") => `(tactic| first
  | refine br_t rfl ?_
  | refine br_f rfl ?_
  | refine rb_t rfl ?_
  | refine rb_f rfl ?_
  | refine ⟨_, rfl, ?_⟩
  | refine ⟨_, _, rfl, rfl, ?_⟩
  | refine ⟨_, _, rfl, ?_⟩
  | refine ⟨rfl, ?_⟩
  | refine ⟨dp_ok _ rfl rfl, ?_⟩
  | refine ⟨_, _, _, rfl, rfl, rfl, ?_⟩
  | refine ⟨le_line (Nat.le_of_ble_eq_true rfl), ?_⟩
  | refine ⟨_, _, _, rfl, rfl, ?_⟩
  | exact rfl
  )
local macro_rules | `(tactic| walk_at "w1") => `(tactic| first
  | (refine gE ?_; walk_at "we")
  | (refine gT ?_; walk_at "wt")
  | (refine gA ?_; first | refine pwa_cons ?_ | refine pwa_nil ?_)
  | (refine gW ?_; first | refine pww_and ?_ | refine pww_or ?_ | refine pww_and1 ?_ | refine pww_or1 ?_)
  | (refine gS ?_; walk_at "nf"; first | refine sd_ret ?_ | refine sd_if ?_ | refine sd_newLN (by assumption) rfl (by walk_at "v") (Nat.le_of_ble_eq_true rfl) ?_ | refine sd_setN (by assumption) rfl (by walk_at "v") ?_ | refine sd_appendN rfl rfl (by walk_at "v") ?_ | refine sd_nil ?_)
  | (refine gP ?_; first | refine pwp_none ?_ | refine pwp_some ?_)
  | walk_at "wl"
  )
local macro_rules | `(tactic| walk_at "w") => `(tactic| repeat walk_at "w1")

section
variable {P : Program} {w : World} {K : PySem.W.Frag} {mg : Str → Option Value} {base : Heap}
theorem ones_required (n : Nat) (ps : List Sen) : ones (requiredKinds n ps) = requiredNouns n ps := by
  unfold requiredKinds
  have ha : ∀ a b : List Kd, ones (a ++ b) = ones a ++ ones b := fun a b => List.filterMap_append
  have h1 : ∀ l : List Int, ones (l.map .one) = l := fun l => by
    induction l with
    | nil => rfl
    | cons a r ih => exact congrArg (a :: ·) ih
  have h2 : ones ((statedKinds ps).filter fun k => !isOne k) = [] := List.filterMap_eq_nil_iff.mpr fun k hk => by
    have := (List.mem_filter.mp hk).2
    cases k <;> first | rfl | cases this
  rw [ha, h1, h2, List.append_nil]
theorem required_nodup (n : Nat) (ps : List Sen) : (ones (requiredKinds n ps)).Nodup := by
  rw [ones_required]
  exact (nodup_rgI n).filter _
theorem required_ok {n m : Nat} {ps : List Sen} (ok : Prem n m ps) : KdsOk n (requiredKinds n ps) := by
  refine ⟨requiredKinds_len ok, fun x hx => ?_⟩
  have := mem_ones.mpr hx
  rw [ones_required] at this
  exact mem_rgI.mp (List.mem_filter.mp this).1
def modelD (M : Mi.Model) : D := .tup [.tup (M.groups.map fun g => .tup [.int g.1, intsD g.2]), .tup (M.verbs.map fun v => .tup (v.map intsD)), .tup (M.selves.map intsD)]
def R_model_of : List D → D → Prop := fun ds r => ∃ (n m : Nat) (ps : List Sen), ds = [sigD n m, sensD ps] ∧ Prem n m ps ∧ r = modelD (modelOf n m ps)
theorem map_rg {α : Type} (f : Nat → α) (n : Nat) : (rgI n).map (fun x => f x.toNat) = (List.range n).map f := by
  unfold rgI
  rw [List.map_map]
  rfl
local macro_rules | `(tactic| walk_at "nf") => `(tactic| first | refine nfS (δ' := [_, _, _, _, _, _, _, _, _, _, _, _, _, _, _, _]) rfl ?_ | refine nfE (δ' := [_, _, _, _, _, _, _, _, _, _, _, _, _, _, _, _]) rfl ?_ | refine nfT (δ' := [_, _, _, _, _, _, _, _, _, _, _, _, _, _, _, _]) rfl ?_ | refine nfTs (δ' := [_, _, _, _, _, _, _, _, _, _, _, _, _, _, _, _]) rfl ?_ | refine nfI (δ' := [_, _, _, _, _, _, _, _, _, _, _, _, _, _, _, _]) rfl ?_ | refine nfG (δ' := [_, _, _, _, _, _, _, _, _, _, _, _, _, _, _, _]) rfl ?_ | refine nfX (δ' := [_, _, _, _, _, _, _, _, _, _, _, _, _, _, _, _]) rfl ?_ | refine nfXO (δ' := [_, _, _, _, _, _, _, _, _, _, _, _, _, _, _, _]) rfl ?_)
theorem fn_model_of (T : Txt K mg) : FnP P w K mg base "model_of" 6 R_model_of := by
  have F1 : FnP P w K mg base "table_of" 2 R_table_of := fn_table_of T
  have F2 : FnP P w K mg base "required_kinds" 4 R_required_kinds := fn_required_kinds T
  have F3 : FnP P w K mg base "sizes_of" 3 R_sizes_of := fn_sizes_of T
  have F4 : FnP P w K mg base "above" 2 R_above := fn_above T
  have F5 : FnP P w K mg base "forced" 4 R_forced := fn_forced T
  have F6 : FnP P w K mg base "forced_self" 5 R_forced_self := fn_forced_self T
  have F7 : FnP P w K mg base "done_to" 1 R_done_to := fn_done_to T
  refine fn_pure T.d_model_of sc_model_of (fun _ _ _ _ _ _ us hl => match us, hl with | [_, _], _ => rfl) (fun ds r ⟨_, _, _, h, _⟩ => by rw [h]; rfl) ?_
  rintro ds r ⟨n, m, ps, rfl, ok, rfl⟩ f cdv A outer s0 H E hr
  have nd := sc_model_of.nd
  have hn := ok.1.2.1
  have hm := ok.1.2.2
  have hp := ok.2.1
  have z : ∀ n : Nat, n ≤ 1000 → n < sizeLine := fun n h => Nat.lt_of_le_of_lt h (by decide)
  have hk20 := requiredKinds_len ok
  walk_at "w"
  refine ⟨_, ⟨n, m, ps, rfl, ok, rfl⟩, ?_⟩
  walk_at "w"
  refine ⟨_, ⟨n, m, ps, rfl, ok, rfl⟩, ?_⟩
  walk_at "w"
  refine ⟨_, ⟨n, m, ps, requiredKinds n ps, rfl, ok, required_ok ok, required_nodup n ps, rfl⟩, ?_⟩
  have hsz := sizesOf_len n (tableOf n ps).1 (tableOf n ps).2 (requiredKinds n ps)
  have eM : modelOf n m ps = { groups := (sizesOf n (tableOf n ps).1 (tableOf n ps).2 (requiredKinds n ps)).zipIdx.map fun p => (p.1, above (tableOf n ps).1 ((requiredKinds n ps).getD (p.2 / 3) (.one 0)) n)
                               verbs := (rgI m).map fun v => (List.range (sizesOf n (tableOf n ps).1 (tableOf n ps).2 (requiredKinds n ps)).length).map fun g => doneTo ((requiredKinds n ps).map fun h => forced n ps (tableOf n ps).1 v ((requiredKinds n ps).getD (g / 3) (.one 0)) h) g
                               selves := (rgI m).map fun v => (List.range (sizesOf n (tableOf n ps).1 (tableOf n ps).2 (requiredKinds n ps)).length).filterMap fun (g : Nat) => if forcedSelf n ps (tableOf n ps).1 v ((requiredKinds n ps).getD (g / 3) (.one 0)) = .yes then some (g : Int) else none } := rfl
  rw [eM]
  generalize sizesOf n (tableOf n ps).1 (tableOf n ps).2 (requiredKinds n ps) = sz at *
  generalize (tableOf n ps).1 = sub at *
  generalize requiredKinds n ps = ks at *
  have hat : ∀ g : Nat, g < sz.length → ∃ k, ks[g / 3]? = some k ∧ ks.getD (g / 3) (.one 0) = k := fun g hg => by
    have h3 : g / 3 < ks.length := by omega
    have hk3 : ks[g / 3]? = some ks[g / 3] := List.getElem?_eq_getElem h3
    exact ⟨_, hk3, by rw [List.getD_eq_getElem?_getD, hk3]; rfl⟩
  have hdiv : ∀ g : Nat, ((g : Nat) : Int) / 3 = ((g / 3 : Nat) : Int) := fun _ => rfl
  have hrg : ∀ x, x ∈ rgI sz.length → ∃ g : Nat, x = (g : Int) ∧ g < sz.length := fun x hx => by
    have := mem_rgI.mp hx
    unfold Nn at this
    exact ⟨x.toNat, by omega, by omega⟩
  walk_at "nf"
  refine sd_setN nd rfl (by walk_at "v") (pw_len T.b_len (pwa_cons (pw_nm rfl (by walk_at "v") rfl (pwa_nil ?_))))
  refine ⟨_, _, rfl, rfl, ?_⟩
  rw [List.length_map]
  walk_at "nf"
  refine sd_setN nd rfl (by walk_at "v") (pw_tuple T.b_tuple (pwa_cons ?_))
  refine pw_lcM (own := [("group", 12)]) rfl nd (blk_of sc_model_of rfl rfl (by decide +kernel)) (pwi_range1 T.b_range ?_)
  walk_at "w"
  refine ⟨by omega, by omega, Int, rgI sz.length, D.int, fun x => .tup [.int (sz.getD x.toNat 0), intsD (above sub (ks.getD (x.toNat / 3) (.one 0)) n)], [12], rgD0 _, by decide, ?_, ?_⟩
  · intro x hx _ _ _ _ _
    obtain ⟨g, rfl, hg⟩ := hrg x hx
    obtain ⟨k, hk1, hk2⟩ := hat g hg
    refine pwg_nm nd rfl (by walk_at "v") ?_
    intro _ _ _ _ _; walk_at "nf"
    refine pw_tup (pwa_cons (pw_ix ?_))
    walk_at "w"
    refine ⟨_, _, _, rfl, rfl, atI_map (List.getElem?_eq_getElem hg), ?_⟩
    refine pwa_cons ?_
    walk_at "w"
    refine ⟨⟨by decide, by decide⟩, ?_⟩
    rw [hdiv]
    refine ⟨_, _, _, rfl, rfl, atI_map hk1, ?_⟩
    walk_at "w"
    refine ⟨_, ⟨n, m, sub, k, rfl, hn, rfl⟩, ?_⟩
    walk_at "w"
    show D.tup [.int (sz.getD g 0), intsD (above sub (ks.getD (g / 3) (.one 0)) n)] = _
    rw [hk2, List.getD_eq_getElem?_getD, List.getElem?_eq_getElem hg]
    rfl
  walk_at "w"
  let GR : D := .tup ((rgI sz.length).map fun x => .tup [.int (sz.getD x.toNat 0), intsD (above sub (ks.getD (x.toNat / 3) (.one 0)) n)])
  let WS : Int → Nat → List Wd := fun v g => ks.map fun h => forced n ps sub v (ks.getD (g / 3) (.one 0)) h
  let VB : Int → D := fun v => .tup ((List.range sz.length).map fun g => intsD (doneTo (WS v g) g))
  let SV : Int → D := fun v => intsD ((List.range sz.length).filterMap fun (g : Nat) => if forcedSelf n ps sub v (ks.getD (g / 3) (.one 0)) = .yes then some (g : Int) else none)
  refine sd_for (is := [9]) PassesOwn.never rfl (pwi_range1 T.b_range ?_)
  walk_at "w"
  refine ⟨by omega, by omega, Int, rgI m, D.int, fun i δ' => ∃ c9 c10 c11, δ' = [.im (sigD n m), .im (sensD ps), .im (.lst (ks.map kindD)), .im (.tab sub), .im (.lst (sz.map .int)), .im (.int ((sz.length : Nat) : Int)), .im GR, .ow (.lst (((rgI m).take i).map VB)), .ow (.lst (((rgI m).take i).map SV)), c9, c10, c11, .un, .un, .un, .un], rgD0 m, ⟨_, _, _, rfl⟩, ?_, ?_⟩
  · rintro i v δ' hv ⟨c9, c10, c11, rfl⟩
    dsimp only
    have e1 : ∀ F : Int → D, ((rgI m).take (i + 1)).map F = ((rgI m).take i).map F ++ [F v] := fun F => by rw [List.take_add_one, hv, List.map_append]; rfl
    rw [e1, e1]
    have hl : ∀ F : Int → D, (((rgI m).take i).map F).length ≤ 2 := fun F => by rw [List.length_map, List.length_take, len_rgI]; omega
    have hl1 := hl VB
    have hl2 := hl SV
    generalize ((rgI m).take i).map VB = l1 at *
    generalize ((rgI m).take i).map SV = l2 at *
    refine pwg_nm nd rfl (by walk_at "v") ?_
    walk_at "nf"
    refine sd_setN nd rfl (by walk_at "v") ?_
    refine pw_lcM (own := [("first", 13)]) rfl nd (blk_of sc_model_of rfl rfl (by decide +kernel)) (pwi_list ?_)
    walk_at "w"
    refine ⟨Kd, ks, kindD, fun a => .lst ((ks.map fun b => forced n ps sub v a b).map wdD), [13], rfl, by decide, ?_, ?_⟩
    · intro a ha _ _ _ _ _
      refine pwg_nm nd rfl (by walk_at "v") ?_
      intro _ _ _ _ _; walk_at "nf"
      refine pw_lcM (own := [("second", 14)]) rfl nd (blk_in sc_model_of rfl (by decide +kernel)) (pwi_list ?_)
      walk_at "w"
      refine ⟨Kd, ks, kindD, fun b => wdD (forced n ps sub v a b), [14], rfl, by decide, ?_, ?_⟩
      · intro b hb _ _ _ _ _
        refine pwg_nm nd rfl (by walk_at "v") ?_
        intro _ _ _ _ _; walk_at "nf"
        walk_at "w"
        exact ⟨_, ⟨n, m, ps, sub, v, a, b, rfl, hn, hp, rfl⟩, rfl⟩
      · show D.lst ((ks.map fun b => forced n ps sub v a b).map wdD) = _
        rw [List.map_map]; rfl
    walk_at "nf"
    refine sd_appendN rfl rfl (by walk_at "v") (pw_tuple T.b_tuple (pwa_cons ?_))
    refine pw_lcM (own := [("group", 12)]) rfl nd (blk_of sc_model_of rfl rfl (by decide +kernel)) (pwi_range1 T.b_range ?_)
    walk_at "w"
    refine ⟨by omega, by omega, Int, rgI sz.length, D.int, fun x => intsD (doneTo (WS v x.toNat) x.toNat), [12], rgD0 _, by decide, ?_, ?_⟩
    · intro x hx _ _ _ _ _
      obtain ⟨g, rfl, hg⟩ := hrg x hx
      obtain ⟨k, hk1, hk2⟩ := hat g hg
      refine pwg_nm nd rfl (by walk_at "v") ?_
      intro _ _ _ _ _; walk_at "nf"
      walk_at "w"
      refine ⟨_, ⟨ks.map fun a => ks.map fun b => forced n ps sub v a b, g, ks.map fun b => forced n ps sub v k b, ?_, ?_, ?_, rfl⟩, ?_⟩
      · rw [List.map_map]; rfl
      · rw [List.getElem?_map, hk1]; rfl
      · rw [List.length_map]; exact hk20
      · show intsD (doneTo (ks.map fun h => forced n ps sub v (ks.getD (g / 3) (.one 0)) h) g) = _
        rw [hk2]
    walk_at "w"
    refine ⟨z _ (by omega), ?_⟩
    walk_at "nf"
    refine sd_setN nd rfl (by walk_at "v") ?_
    refine pw_lcM (own := [("kind", 15)]) rfl nd (blk_of sc_model_of rfl rfl (by decide +kernel)) (pwi_list ?_)
    walk_at "w"
    refine ⟨Kd, ks, kindD, fun a => wdD (forcedSelf n ps sub v a), [15], rfl, by decide, ?_, ?_⟩
    · intro a ha _ _ _ _ _
      refine pwg_nm nd rfl (by walk_at "v") ?_
      intro _ _ _ _ _; walk_at "nf"
      walk_at "w"
      exact ⟨_, ⟨n, m, ps, sub, v, a, rfl, hn, hp, rfl⟩, rfl⟩
    walk_at "nf"
    refine sd_appendN rfl rfl (by walk_at "v") (pw_tuple T.b_tuple (pwa_cons ?_))
    refine pw_lc (own := [("group", 12)]) rfl nd (blk_of sc_model_of rfl rfl (by decide +kernel)) (pwi_range1 T.b_range ?_)
    walk_at "w"
    refine ⟨by omega, by omega, Int, rgI sz.length, D.int, fun x => ((if forcedSelf n ps sub v (ks.getD (x.toNat / 3) (.one 0)) = .yes then some ((x.toNat : Nat) : Int) else none : Option Int)).map D.int, [12], rgD0 _, by decide, ?_, ?_⟩
    · intro x hx _ _ _ _ _
      obtain ⟨g, rfl, hg⟩ := hrg x hx
      obtain ⟨k, hk1, hk2⟩ := hat g hg
      refine pwg_nm nd rfl (by walk_at "v") ?_
      intro _ _ _ _ _; walk_at "nf"
      refine pwts_one (pwt_eq (pw_ix ?_))
      walk_at "w"
      refine ⟨⟨by decide, by decide⟩, ?_⟩
      rw [hdiv]
      refine ⟨_, _, _, rfl, rfl, atI_map hk1, ?_⟩
      walk_at "w"
      have fe : seq (wdD (forcedSelf n ps sub v k)) (.str "yes") = some (decide (forcedSelf n ps sub v k = .yes)) := by cases forcedSelf n ps sub v k <;> rfl
      refine ⟨_, fe, fun h => ?_, fun h => ?_⟩
      · show Option.map _ (if forcedSelf n ps sub v (ks.getD (g / 3) (.one 0)) = .yes then some ((g : Nat) : Int) else none) = none
        rw [hk2, if_neg (of_decide_eq_false h)]; rfl
      · intro _ _ _ _ _; walk_at "nf"
        walk_at "w"
        show Option.map _ (if forcedSelf n ps sub v (ks.getD (g / 3) (.one 0)) = .yes then some ((g : Nat) : Int) else none) = _
        rw [hk2, if_pos (of_decide_eq_true h)]; rfl
    walk_at "w"
    refine ⟨z _ (by omega), ?_⟩
    walk_at "nf"
    have eVB : VB v = .tup ((rgI sz.length).map fun x => intsD (doneTo (WS v x.toNat) x.toNat)) := by
      rw [map_rg (fun g => intsD (doneTo (WS v g) g))]
    have eSV : SV v = .tup ((rgI sz.length).filterMap fun x => ((if forcedSelf n ps sub v (ks.getD (x.toNat / 3) (.one 0)) = .yes then some ((x.toNat : Nat) : Int) else none : Option Int)).map D.int) := by
      rw [fm_map]
      show D.tup (List.map D.int _) = _
      unfold rgI
      rw [List.filterMap_map]
      rfl
    rw [eVB, eSV]
    exact sd_nil ⟨_, _, _, rfl⟩
  · rintro δ' ⟨c9, c10, c11, rfl⟩
    rw [List.take_of_length_le (Nat.le_refl _)]
    refine sd_freeze 7 rfl rfl (sd_freeze 8 rfl rfl ?_)
    walk_at "w"
    unfold modelD
    have eG : (sz.zipIdx.map fun p => (p.1, above sub (ks.getD (p.2 / 3) (.one 0)) n)).map (fun g => D.tup [.int g.1, intsD g.2]) = (rgI sz.length).map fun x => .tup [.int (sz.getD x.toNat 0), intsD (above sub (ks.getD (x.toNat / 3) (.one 0)) n)] := by
      rw [map_rg (fun g => D.tup [.int (sz.getD g 0), intsD (above sub (ks.getD (g / 3) (.one 0)) n)]), List.map_map]
      apply List.ext_getElem?
      intro j
      simp only [List.getElem?_map, List.getElem?_zipIdx, List.getElem?_range]
      by_cases h : j < sz.length
      · rw [List.getElem?_eq_getElem h, List.getElem?_range h]
        simp [List.getD_eq_getElem?_getD, List.getElem?_eq_getElem h]
      · rw [List.getElem?_eq_none (by omega), List.getElem?_eq_none (by simp; omega)]
        rfl
    show D.tup [GR, _, _] = D.tup [_, _, _]
    have eV : (rgI m).map VB = (rgI m).map fun v => D.tup (((List.range sz.length).map fun g => doneTo (WS v g) g).map intsD) := List.map_congr_left fun v _ => by
      rw [List.map_map]; rfl
    rw [eG, List.map_map, List.map_map, eV]
    rfl
end
end AL
namespace AL
open PySem PySem.Spec PyProof.Rows L2

def mL (H : Hp) (fl : List Addr) : Hp := fun b => if b ∈ fl then none else H b
theorem mL_out {H : Hp} {fl : List Addr} {b : Addr} (h : b ∉ fl) : mL H fl b = H b := if_neg h
theorem mL_in {H : Hp} {fl : List Addr} {b : Addr} (h : b ∈ fl) : mL H fl b = none := if_pos h
section
variable {G G' H H' : Hp} {σ : St} {δ : List Cell} {f : List Addr}
/-- an owned cell, other frames in its place -/
theorem Sl.getO2 (s : Sl G H σ δ f) : ∀ {i : Nat} {m : M}, δ[i]? = some (Cell.ow m) → ∃ (a : Addr) (g f1 f2 : List Addr), σ[i]? = some (some (V.ref a)) ∧ Own G H a m g ∧ f = f1 ++ (g ++ f2) ∧
    (∀ (G' H' : Hp) (m' : M) (g' : List Addr), Mf G G' → (∀ b ∈ f1 ++ f2, H' b = H b) → Own G' H' a m' g' → Sl G' H' σ (δ.set i (.ow m')) (f1 ++ (g' ++ f2))) := by
  induction s with
  | nil => intro i d e; simp at e
  | un s ih =>
    intro i d e
    cases i with
    | zero => simp at e
    | succ i =>
      obtain ⟨a, g, f1, f2, h1, h2, h3, h4⟩ := ih (i := i) (by simpa using e)
      exact ⟨a, g, f1, f2, by simpa using h1, h2, h3, fun G' H' m' g' x y z => .un (h4 G' H' m' g' x y z)⟩
  | im q s ih =>
    intro i d e
    cases i with
    | zero => simp at e
    | succ i =>
      obtain ⟨a, g, f1, f2, h1, h2, h3, h4⟩ := ih (i := i) (by simpa using e)
      exact ⟨a, g, f1, f2, by simpa using h1, h2, h3, fun G' H' m' g' x y z => .im (q.mo x.toMo) (h4 G' H' m' g' x y z)⟩
  | lk q s ih =>
    intro i d e
    cases i with
    | zero => simp at e
    | succ i =>
      obtain ⟨a, g, f1, f2, h1, h2, h3, h4⟩ := ih (i := i) (by simpa using e)
      exact ⟨a, g, f1, f2, by simpa using h1, h2, h3, fun G' H' m' g' x y z => .lk (x.fz q) (h4 G' H' m' g' x y z)⟩
  | @ow a0 m0 σ0 δ0 f0 g0 o s ih =>
    intro i d e
    cases i with
    | zero =>
      simp at e; subst e
      exact ⟨a0, g0, [], f0, rfl, o, rfl, fun G' H' m' g' x y z => Sl.ow (g := g') (f := f0) z (s.mo x fun b hb => y b (by simpa using hb))⟩
    | succ i =>
      obtain ⟨a, g, f1, f2, h1, h2, h3, h4⟩ := ih (i := i) (by simpa using e)
      refine ⟨a, g, g0 ++ f1, f2, by simpa using h1, h2, by rw [h3, List.append_assoc], fun G' H' m' g' x y z => ?_⟩
      rw [List.append_assoc]
      exact .ow (o.mo x.toMo fun b hb => y b (by simp [hb])) (h4 G' H' m' g' x (fun b hb => y b (by rw [List.append_assoc]; exact List.mem_append_right _ hb)) z)
end
section
variable {G0 H0 G H : Hp} {σ : St} {δ : List Cell} {i : Nat} {m : M}
/-- an owned object is given away for a while -/
theorem Okb.give (o : Okb G0 H0 G H σ δ) (e : δ[i]? = some (Cell.ow m)) : ∃ (a : Addr) (fl : List Addr), σ[i]? = some (some (V.ref a)) ∧ Own G H a m fl ∧ fl.Nodup ∧ (∀ b ∈ fl, G b = none) ∧
    ∀ (G' H' : Hp) (m' : M) (fl' : List Addr), Gr G (mL H fl) G' H' → Own G' H' a m' fl' → fl'.Nodup → (∀ b ∈ fl', G' b = none ∧ mL H fl b = none) → Okb G0 H0 G' H' σ (δ.set i (.ow m')) := by
  obtain ⟨f, s, nd, fr⟩ := id o.sl
  obtain ⟨a, g, f1, f2, h1, h2, rfl, h4⟩ := s.getO2 e
  have lv := s.liveO
  have nd' := nd
  rw [List.nodup_append] at nd
  obtain ⟨n1, n2, n3⟩ := nd
  rw [List.nodup_append] at n2
  obtain ⟨n4, n5, n6⟩ := n2
  have dis : ∀ b ∈ f1 ++ f2, b ∉ g := fun b hb hg => by
    rcases List.mem_append.mp hb with q | q
    · exact n3 b q b (List.mem_append_left _ hg) rfl
    · exact n6 b hg b q rfl
  have inf : ∀ b ∈ f1 ++ f2, b ∈ f1 ++ (g ++ f2) := fun b hb => by
    rcases List.mem_append.mp hb with q | q <;> simp [q]
  refine ⟨a, g, h1, h2, n4, fun b hb => (fr b (by simp [hb])).1, fun G' H' m' fl' gr ow nd2 fr2 => ?_⟩
  have keep : ∀ b ∈ f1 ++ f2, ∃ u, H b = some u ∧ nT u = true ∧ H' b = some u ∧ G' b = none := fun b hb => by
    obtain ⟨u, e1, e2⟩ := lv b (inf b hb)
    have e3 : mL H g b = some u := (mL_out (dis b hb)).trans e1
    exact ⟨u, e1, e2, gr.h _ _ e3, (gr.nw b u e3 e2).trans (fr b (inf b hb)).1⟩
  have apart : ∀ b ∈ fl', b ∉ f1 ++ f2 := fun b hb hf => by
    obtain ⟨u, e1, _, _, _⟩ := keep b hf
    have := (fr2 b hb).2
    rw [mL_out (dis b hf), e1] at this
    cases this
  refine ⟨⟨gr.sg, o.gr.g.trans gr.g, fun b x q => ?_, fun b x q n => ?_⟩, _, h4 G' H' m' fl' (.of gr.g) (fun b hb => ?_) ow, ?_, fun b hb => ?_⟩
  · have hb : b ∉ g := fun z => by rw [(fr b (by simp [z])).2] at q; cases q
    exact gr.h _ _ ((mL_out hb).trans (o.gr.h _ _ q))
  · have hb : b ∉ g := fun z => by rw [(fr b (by simp [z])).2] at q; cases q
    exact (gr.nw b x ((mL_out hb).trans (o.gr.h _ _ q)) n).trans (o.gr.nw b x q n)
  · obtain ⟨u, e1, _, e3, _⟩ := keep b hb
    rw [e1, e3]
  · rw [List.nodup_append]
    refine ⟨n1, ?_, fun x hx y hy e => ?_⟩
    · rw [List.nodup_append]
      exact ⟨nd2, n5, fun x hx y hy e => apart x hx (List.mem_append_right _ (e ▸ hy))⟩
    · subst e
      rcases List.mem_append.mp hy with q | q
      · exact apart x q (List.mem_append_left _ hx)
      · exact n3 x hx x (List.mem_append_right _ q) rfl
  · rcases List.mem_append.mp hb with q | q
    · obtain ⟨_, _, _, _, e4⟩ := keep b (List.mem_append_left _ q)
      exact ⟨e4, (fr b (inf b (List.mem_append_left _ q))).2⟩
    · rcases List.mem_append.mp q with q | q
      · refine ⟨(fr2 b q).1, ?_⟩
        by_cases hg : b ∈ g
        · exact (fr b (by simp [hg])).2
        · have := (fr2 b q).2
          rw [mL_out hg] at this
          exact o.gr.h.free this
      · obtain ⟨_, _, _, _, e4⟩ := keep b (List.mem_append_right _ q)
        exact ⟨e4, (fr b (inf b (List.mem_append_right _ q))).2⟩
end

theorem Own.frames {G H : Hp} {a : Addr} {m : M} {f g : List Addr} (o : Own G H a m f) (o' : Own G H a m g) : f = g := by
  induction m with
  | lst l => exact o.1.trans o'.1.symm
  | tab l => exact o.1.trans o'.1.symm
  | imp l => exact o.1.trans o'.1.symm
  | ik l => exact o.1.trans o'.1.symm
  | deb C sg sts cms =>
    obtain ⟨dx, l, vs, v1, v3, rfl, e1, e2, e3, r1, r2, r3⟩ := o
    obtain ⟨dx', l', vs', v1', v3', rfl, e1', e2', e3', r1', r2', r3'⟩ := o'
    rw [e1] at e1'
    cases e1'
    rfl
  | ox S => exact o.1.trans o'.1.symm
  | «at» b m ih => exact ih o.2 o'.2
structure Pe (X : Cx) (e : Expr) (δ : List Cell) (Q : D → List Cell → Prop) : Prop where
  run : ∀ (G0 H0 G H : Hp) (σ : St), Okb G0 H0 G H σ δ → ∀ k : VK, (∀ v d G' H' δ', Okb G0 H0 G' H' σ δ' → Same G G' → DT G' v d → Q d δ' → k v H') → sE X e σ H k
structure PeT (X : Cx) (e : Expr) (δ : List Cell) (Q : Bool → List Cell → Prop) : Prop where
  run : ∀ (G0 H0 G H : Hp) (σ : St), Okb G0 H0 G H σ δ → ∀ k : Bool → Hp → Prop, (∀ b G' H' δ', Okb G0 H0 G' H' σ δ' → Same G G' → Q b δ' → k b H') → sT X e σ H k
structure PeA (X : Cx) (es : List Expr) (δ : List Cell) (Q : List D → List Cell → Prop) : Prop where
  run : ∀ (G0 H0 G H : Hp) (σ : St), Okb G0 H0 G H σ δ → ∀ k : List V → Hp → Prop, (∀ vs ds G' H' δ', Okb G0 H0 G' H' σ δ' → Same G G' → DTs G' vs ds → Q ds δ' → k vs H') → sA X es σ H k
section
variable {X : Cx} {e a b c : Expr} {es : List Expr} {δ : List Cell} {Q : D → List Cell → Prop} {QT : Bool → List Cell → Prop} {pos p p2 : Pos} {x y : Str}
theorem pe_w (h : Pw X e δ fun d => Q d δ) : Pe X e δ Q := ⟨fun G0 H0 G H σ o k f => h.run G H σ o.ok k fun v d G' H' g r q => f v d G' H' δ (o.grow g) g.g r q⟩
theorem pet_w (h : PwT X e δ fun d => QT d δ) : PeT X e δ QT := ⟨fun G0 H0 G H σ o k f => h.run G H σ o.ok k fun v G' H' g q => f v G' H' δ (o.grow g) g.g q⟩
theorem pea_nil {Q : List D → List Cell → Prop} (q : Q [] δ) : PeA X [] δ Q := ⟨fun G0 H0 G H σ o k f => sA_of pa_nil (f [] [] G H δ o (Same.refl _) .nil q)⟩
theorem pea_cons {Q : List D → List Cell → Prop} (ha : Pe X e δ fun d δ1 => PeA X es δ1 fun ds δ2 => Q (d :: ds) δ2) (hs : starEach (e :: es) X.env = (false, eval e X.env) :: starEach es X.env := by rfl) : PeA X (e :: es) δ Q :=
  ⟨fun G0 H0 G H σ o k f => sA_of (pa_cons pe_s pa_s hs) (ha.run G0 H0 G H σ o _ fun v d G1 H1 δ1 o1 s1 r1 h => h.run G0 H0 G1 H1 σ o1 _ fun vs ds G2 H2 δ2 o2 s2 r2 q => f (v :: vs) (d :: ds) G2 H2 δ2 o2 (s1.trans s2) (.cons (r1.mo (.of s2)) r2) q)⟩
theorem pe_tupE {x1 : Nat} (h : PeA X es δ fun ds δ' => ds.length ≤ sizeLine ∧ Q (.tup ds) δ') : Pe X (.Tuple es x1 pos) δ Q :=
  ⟨fun G0 H0 G H σ o k f => sE_of (pe_tup pa_s) (h.run G0 H0 G H σ o _ fun vs ds G1 H1 δ1 o1 s1 r ⟨z, q⟩ => ⟨by rw [r.length]; exact z, fun p hp =>
    have g := Gr.new (o := .tup vs) o1.gr.sg hp
    f (.ref p) (.tup ds) _ _ δ1 (o1.grow g) (s1.trans g.g) (.tup upd_same z (g.dts r)) q⟩)⟩
theorem pe_lstE (h : PeA X es δ fun ds δ' => ds.length ≤ sizeLine ∧ Q (.lst ds) δ') : Pe X (.List es pos) δ Q :=
  ⟨fun G0 H0 G H σ o k f => sE_of (pe_lst pa_s) (h.run G0 H0 G H σ o _ fun vs ds G1 H1 δ1 o1 s1 r ⟨z, q⟩ => ⟨by rw [r.length]; exact z, fun p hp =>
    have g := Gr.new (o := .lst vs) o1.gr.sg hp
    f (.ref p) (.lst ds) _ _ δ1 (o1.grow g) (s1.trans g.g) (.lst upd_same z (g.dts r)) q⟩)⟩
theorem pe_twoE {r : R2} {P : D → D → D → Prop} (hd : OpD r P) (ha : Pe X a δ fun d1 δ1 => Pe X b δ1 fun d2 δ2 => ∃ d, P d1 d2 d ∧ Q d δ2) {G0 H0 G H : Hp} {σ : St} (o : Okb G0 H0 G H σ δ) {k : VK} (f : ∀ v d G' H' δ', Okb G0 H0 G' H' σ δ' → Same G G' → DT G' v d → Q d δ' → k v H') :
    tOp r (sE X a) (sE X b) σ H k := by
  refine ha.run G0 H0 G H σ o _ fun v1 d1 G1 H1 δ1 o1 s1 r1 hb => hb.run G0 H0 G1 H1 σ o1 _ fun v2 d2 G2 H2 δ2 o2 s2 r2 ⟨d, hp, q⟩ => ?_
  exact hd G2 H2 v1 v2 d1 d2 d o2.gr.sg (r1.mo (.of s2)) r2 hp k fun v G' H' g r => f v d G' H' δ2 (o2.grow g) ((s1.trans s2).trans g.g) r q
theorem pe_gtE (ha : Pe X a δ fun d1 δ1 => Pe X b δ1 fun d2 δ2 => ∃ i j, d1 = .int i ∧ d2 = .int j ∧ Q (.bl (decide (j < i))) δ2) : Pe X (.Compare a [.Gt] [b] pos) δ Q :=
  ⟨fun G0 H0 G H σ o k f => sE_of (pe_cmpR op_gt pe_s pe_s (nomark _)) (pe_twoE (opD_C (g := fun i j => decide (j < i))) ⟨fun G0 H0 G H σ o k f => ha.run G0 H0 G H σ o k fun v d G' H' δ' o' s' r h => f v d G' H' δ' o' s' r ⟨fun G0 H0 G H σ o k f => h.run G0 H0 G H σ o k fun v d G' H' δ' o' s' r ⟨i, j, e1, e2, q⟩ => f v d G' H' δ' o' s' r ⟨_, ⟨i, j, e1, e2, rfl⟩, q⟩⟩⟩ o f)⟩
theorem pe_eqE (ha : Pe X a δ fun d1 δ1 => Pe X b δ1 fun d2 δ2 => ∃ r, seq d1 d2 = some r ∧ Q (.bl r) δ2) : Pe X (.Compare a [.Eq] [b] pos) δ Q :=
  ⟨fun G0 H0 G H σ o k f => sE_of (pe_cmpR op_eq pe_s pe_s (nomark _)) (pe_twoE opD_eq ⟨fun G0 H0 G H σ o k f => ha.run G0 H0 G H σ o k fun v d G' H' δ' o' s' r h => f v d G' H' δ' o' s' r ⟨fun G0 H0 G H σ o k f => h.run G0 H0 G H σ o k fun v d G' H' δ' o' s' r ⟨t, e1, q⟩ => f v d G' H' δ' o' s' r ⟨_, ⟨t, e1, rfl⟩, q⟩⟩⟩ o f)⟩
theorem pet_gtE (ha : Pe X a δ fun d1 δ1 => Pe X b δ1 fun d2 δ2 => ∃ i j, d1 = .int i ∧ d2 = .int j ∧ QT (decide (j < i)) δ2) : PeT X (.Compare a [.Gt] [b] pos) δ QT :=
  ⟨fun G0 H0 G H σ o k f => sT_of (pt_cmpR op_gt pe_s pe_s (nomark _)) (pe_twoE (Q := fun d δ' => ∃ t, d = .bl t ∧ QT t δ') (opD_C (g := fun i j => decide (j < i))) ⟨fun G0 H0 G H σ o k f => ha.run G0 H0 G H σ o k fun v d G' H' δ' o' s' r h => f v d G' H' δ' o' s' r ⟨fun G0 H0 G H σ o k f => h.run G0 H0 G H σ o k fun v d G' H' δ' o' s' r ⟨i, j, e1, e2, q⟩ => f v d G' H' δ' o' s' r ⟨_, ⟨i, j, e1, e2, rfl⟩, _, rfl, q⟩⟩⟩ o fun v d G' H' δ' o' s' r ⟨t, e, q⟩ => by
    subst e; cases r; exact ⟨t, rfl, f t G' H' δ' o' s' q⟩)⟩
theorem pet_notE (ha : PeT X a δ fun t δ' => QT (!t) δ') : PeT X (.UnaryOp .Not a pos) δ QT := ⟨fun G0 H0 G H σ o k f => sT_of (pt_not pt_s) (ha.run G0 H0 G H σ o _ fun b G' H' δ' o' s' q => f _ G' H' δ' o' s' q)⟩
theorem pet_val (he : ∀ whole, isTrue a X.env whole = (do let v ← whole; standAt a.pos; holding [v] (truthy v)) := by intro _; rfl) (ha : Pe X a δ fun d δ' => ∃ t, d = .bl t ∧ QT t δ') : PeT X a δ QT :=
  ⟨fun G0 H0 G H σ o k f => sT_of (pt_val pe_s he) (ha.run G0 H0 G H σ o _ fun v d G1 H1 δ1 o1 s1 r1 ⟨t, e, q⟩ => by subst e; cases r1; exact ⟨t, rfl, f t G1 H1 δ1 o1 s1 q⟩)⟩
theorem pe_ixE (ha : Pe X a δ fun d1 δ1 => Pe X b δ1 fun d2 δ2 => ∃ l i d, items d1 = some l ∧ d2 = .int i ∧ atI l i = some d ∧ Q d δ2) (hs : PlainIx b := by exact fun _ _ => rfl) : Pe X (.Subscript a b pos) δ Q :=
  ⟨fun G0 H0 G H σ o k f => sE_of (pe_ix ix_seq pe_s pe_s hs) (ha.run G0 H0 G H σ o _ fun v1 d1 G1 H1 δ1 o1 s1 r1 hb => hb.run G0 H0 G1 H1 σ o1 _ fun v2 d2 G2 H2 δ2 o2 s2 r2 ⟨l, i, d, e1, e2, e3, q⟩ => by
    subst e2; cases r2
    have r1' := r1.mo (.of s2)
    cases r1' with
    | tup e z r =>
      cases e1
      obtain ⟨v, h1, h2⟩ := at_ok r e3
      exact .inr (.inl ⟨_, _, i, v, rfl, rfl, .of (o2.gr.sg _ _ e), h1, f v d G2 H2 δ2 o2 (s1.trans s2) h2 q⟩)
    | lst e z r =>
      cases e1
      obtain ⟨v, h1, h2⟩ := at_ok r e3
      exact .inl ⟨_, _, i, v, rfl, rfl, .of (o2.gr.sg _ _ e), h1, f v d G2 H2 δ2 o2 (s1.trans s2) h2 q⟩
    | _ => cases e1)⟩
/-- a pure def at arguments with effects -/
theorem pe_callE {j k : Nat} {Rl : List D → D → Prop} (F : FnP X.prog X.w X.K X.mg X.base x j Rl) (hr : Room k X.A) (hk : j ≤ k) (hg : Gl X x) (ha : PeA X (e :: es) δ fun ds δ' => ∃ r, Rl ds r ∧ Q r δ') (hdb : (x == ("__debug__" : Str)) = false := by decide)
    (he : starEach (e :: es) X.env = (false, eval e X.env) :: starEach es X.env := by rfl) (hpl : (backTo pos (starEach es X.env)).any (·.1) = false := by rfl) : Pe X (.Call (.Name x p) (e :: es) [] pos) δ Q :=
  ⟨fun G0 H0 G H σ o k f => by
    obtain ⟨fa, fd, ps, h1, h2, h3, h4⟩ := F.ex
    refine sE_of (pe_call h4 (hr.mono hk) hg h1 h2 h3 .nil pass0 pa_s hdb he hpl) (ha.run G0 H0 G H σ o _ fun vs ds G1 H1 δ1 o1 s1 r1 ⟨r, h, q⟩ => ?_)
    show spP Rl (vs ++ []) H1 k E0
    rw [List.append_nil]
    exact ⟨G1, ds, r, o1.gr.sg, r1, h, fun v G' H' g z => f v r G' H' δ1 (o1.grow g) (s1.trans g.g) z q⟩⟩
end

/-- the end of a call that changes the object at a -/
def EndE (G H : Hp) (a : Addr) (fl : List Addr) (Rl : D → M → Prop) (Q : VK) : Prop := ∀ v r m' G' H' fl', Gr G (mL H fl) G' H' → Own G' H' a m' fl' → fl'.Nodup → (∀ b ∈ fl', G' b = none ∧ mL H fl b = none) → DT G' v r → Rl r m' → Q v H'
def spE (Pre : M → List D → Prop) (Rl : M → List D → D → M → Prop) : Sp := fun vs H Q _ => ∃ G a fl m ws ds, vs = .ref a :: ws ∧ Same G H ∧ Own G H a m fl ∧ fl.Nodup ∧ (∀ b ∈ fl, G b = none) ∧ DTs G ws ds ∧ Pre m ds ∧ EndE G H a fl (Rl m ds) Q
structure FnE (P : Program) (w : World) (K : PySem.W.Frag) (mg : Str → Option Value) (base : Heap) (x : Str) (k : Nat) (Pre : M → List D → Prop) (Rl : M → List D → D → M → Prop) : Prop where
  ex : ∃ f fd ps, mg x = some (.ref f) ∧ PySem.W.keepIn K (.ref f) = true ∧ Binds K fd ps [] ∧ FnOk P w K mg base CX0 k f fd ps (spE Pre Rl)
theorem okb_startE {G H : Hp} {a : Addr} {m : M} {fl : List Addr} {N : List Str} {ws : List V} {ds : List D} (s : Same G H) (ow : Own G H a m fl) (nd : fl.Nodup) (fr : ∀ b ∈ fl, G b = none) (r : DTs G ws ds) :
    Okb G (mL H fl) G H (L2.start N (.ref a :: ws)) (.ow (.at a m) :: (ds.map .im ++ List.replicate (N.length - (ds.length + 1)) .un)) := by
  refine ⟨⟨s, Same.refl _, fun b x h => ?_, fun _ _ _ _ => rfl⟩, fl ++ [], ?_, by rw [List.append_nil]; exact nd, fun b hb => ?_⟩
  · by_cases hb : b ∈ fl
    · rw [mL_in hb] at h; cases h
    · rw [mL_out hb] at h; exact h
  · unfold L2.start
    have e : N.length - (V.ref a :: ws).length = N.length - (ds.length + 1) := by rw [List.length_cons, r.length]
    rw [e]
    exact Sl.ow (show Own G H a (.at a m) fl from ⟨rfl, ow⟩) (sl_start _ r)
  · rw [List.append_nil] at hb
    exact ⟨fr b hb, mL_in hb⟩
theorem fn_effF {P : Program} {w : World} {K : PySem.W.Frag} {mg : Str → Option Value} {base : Heap} {x qual : Str} {st : Stmt} {f : Addr} {fd : FuncData} {N ps : List Str} {k : Nat} {Pre : M → List D → Prop} {Rl : M → List D → D → M → Prop} (F : Fun K x qual st f fd) (S : FnScope N ps (defScope st))
    (len : ∀ m ds, Pre m ds → ds.length + 1 = ps.length)
    (body : ∀ m ds, Pre m ds → ∀ (a : Addr) (cdv : Value) (A : Around) (outer : List Env) (s : Shared) (H : Hp) (E : XK), Room k (A.deeper (envOfC qual (defScope st) s.heap.objs.size f cdv)) →
      Sd (fx P w K mg base N qual (defScope st) f cdv A outer s H E) (defBody st) (.ow (.at a m) :: (ds.map .im ++ List.replicate (N.length - (ds.length + 1)) .un)) (fun δ' => ∃ m', δ'[0]? = some (.ow (.at a m')) ∧ Rl m ds .non m') (fun d δ' => ∃ m', δ'[0]? = some (.ow (.at a m')) ∧ Rl m ds d m')) :
    FnOk P w K mg base CX0 (k + 1) f fd ps (spE Pre Rl) := by
  refine F.ok S (fun vs H Q E ⟨G, a, fl, m, ws, ds, e, _, _, _, _, r, pre, _⟩ => by rw [e, List.length_cons, r.length]; exact len m ds pre) fun cdv A outer s H vs Q E hr ⟨G, a, fl, m, ws, ds, e, sg, ow, nd, fr, r, pre, q⟩ => ?_
  subst e
  have fin : ∀ {v : V} {d : D} {G' H' : Hp} {σ' : St} {δ' : List Cell}, Okb G (mL H fl) G' H' σ' δ' → DT G' v d → (∃ m', δ'[0]? = some (Cell.ow (.at a m')) ∧ Rl m ds d m') → Q v H' := fun {v d G' H' σ' δ'} o dt ⟨m', e0, hR⟩ => by
    obtain ⟨a', fl', h1, h2, h3, h4, h5⟩ := o.give e0
    obtain ⟨rfl, h2⟩ := h2
    obtain ⟨f0, s0, n0, fr0⟩ := o.sl
    have hin : ∀ b ∈ fl', mL H fl b = none := by
      obtain ⟨a2, g, q1, q2, q3, _⟩ := o.own e0
      intro b hb
      have : fl' = g := by
        rw [h1] at q1
        cases q1
        exact Own.frames h2 q2.2
      subst this
      exact (q3 b hb).2
    exact q v d m' G' H' fl' o.gr h2 h3 (fun b hb => ⟨h4 b hb, hin b hb⟩) dt hR
  refine ⟨_, pss_s, (body m ds pre a cdv A outer s H E hr).run G (mL H fl) G H _ (okb_startE sg ow nd fr r) _ (fun G' H' σ' δ' o e => ?_) fun v d G' H' σ' δ' o dt e => ?_⟩
  · exact fin o .non e
  · exact fin o dt e
end AL
namespace AL
open PySem PySem.Spec PyProof.Rows L2

section
variable {X : Cx} {e a b c : Expr} {es : List Expr} {δ : List Cell} {Q : D → List Cell → Prop} {pos p p2 apos : Pos} {x y mt : Str} {Pre : M → List D → Prop} {Rl : M → List D → D → M → Prop}
theorem Okb.giveA {G0 H0 G H : Hp} {σ : St} {i : Nat} {m : M} {a0 : Addr} (o : Okb G0 H0 G H σ δ) (e : δ[i]? = some (Cell.ow (.at a0 m))) : ∃ (a : Addr) (fl : List Addr), σ[i]? = some (some (V.ref a)) ∧ Own G H a m fl ∧ fl.Nodup ∧ (∀ b ∈ fl, G b = none) ∧
    ∀ (G' H' : Hp) (m' : M) (fl' : List Addr), Gr G (mL H fl) G' H' → Own G' H' a m' fl' → fl'.Nodup → (∀ b ∈ fl', G' b = none ∧ mL H fl b = none) → Okb G0 H0 G' H' σ (δ.set i (.ow (.at a0 m'))) := by
  obtain ⟨a, fl, h1, ⟨h2, h3⟩, h4, h5, h6⟩ := o.give e
  exact ⟨a, fl, h1, h3, h4, h5, fun G' H' m' fl' g ow nd fr => h6 G' H' (.at a0 m') fl' g ⟨h2, ow⟩ nd fr⟩
/-- f(y, ..): y's object is changed -/
theorem pe_eff {j k i : Nat} {m : M} (F : FnE X.prog X.w X.K X.mg X.base x j Pre Rl) (hr : Room k X.A) (hk : j ≤ k) (hg : Gl X x) (hN : X.N.findIdx? (fun z => z == y) = some i) (he : δ[i]? = some (Cell.ow m)) (hv : Vis X.env.scope y)
    (ha : PwA X es δ fun ds => Pre m ds ∧ ∀ r m', Rl m ds r m' → Q r (δ.set i (.ow m'))) (hdb : (x == ("__debug__" : Str)) = false := by decide) (hd : (y == ("__debug__" : Str)) = false := by decide) (hcd : (y == ("__classdict__" : Str)) = false := by decide)
    (hs : starEach (.Name y p2 :: es) X.env = (false, eval (.Name y p2) X.env) :: starEach es X.env := by rfl) (hpl : (backTo pos (starEach es X.env)).any (·.1) = false := by rfl) : Pe X (.Call (.Name x p) (.Name y p2 :: es) [] pos) δ Q :=
  ⟨fun G0 H0 G H σ o k f => by
    obtain ⟨fa, fd, ps, h1, h2, h3, h4⟩ := F.ex
    refine sE_of (L2.pe_call h4 (hr.mono hk) hg h1 h2 h3 .nil pass0 (pa_cons (pe_var (ix_get hN) hv hd hcd) pa_s hs) hdb hs hpl) ?_
    obtain ⟨a0, fl0, e0, _⟩ := o.give he
    refine ⟨.ref a0, e0, ha.run G H σ o.ok _ fun ws ds G1 H1 g1 r1 ⟨pre, q⟩ => ?_⟩
    have o1 := o.grow g1
    obtain ⟨a, fl, ea, ow, nd, fr, back⟩ := o1.give he
    rw [e0] at ea
    cases ea
    show spE Pre Rl ((V.ref a0 :: ws) ++ []) H1 k E0
    rw [List.append_nil]
    exact ⟨G1, a0, fl, m, ws, ds, rfl, o1.gr.sg, ow, nd, fr, r1, pre, fun v r m' G' H' fl' g ow' nd' fr' dt hR => f v r G' H' _ (back G' H' m' fl' g ow' nd' fr') (g1.g.trans g.g) dt (q r m' hR)⟩⟩
theorem pe_effA {j k i : Nat} {m : M} {a0 : Addr} (F : FnE X.prog X.w X.K X.mg X.base x j Pre Rl) (hr : Room k X.A) (hk : j ≤ k) (hg : Gl X x) (hN : X.N.findIdx? (fun z => z == y) = some i) (he : δ[i]? = some (Cell.ow (.at a0 m))) (hv : Vis X.env.scope y)
    (ha : PwA X es δ fun ds => Pre m ds ∧ ∀ r m', Rl m ds r m' → Q r (δ.set i (.ow (.at a0 m')))) (hdb : (x == ("__debug__" : Str)) = false := by decide) (hd : (y == ("__debug__" : Str)) = false := by decide) (hcd : (y == ("__classdict__" : Str)) = false := by decide)
    (hs : starEach (.Name y p2 :: es) X.env = (false, eval (.Name y p2) X.env) :: starEach es X.env := by rfl) (hpl : (backTo pos (starEach es X.env)).any (·.1) = false := by rfl) : Pe X (.Call (.Name x p) (.Name y p2 :: es) [] pos) δ Q :=
  ⟨fun G0 H0 G H σ o k f => by
    obtain ⟨fa, fd, ps, h1, h2, h3, h4⟩ := F.ex
    refine sE_of (L2.pe_call h4 (hr.mono hk) hg h1 h2 h3 .nil pass0 (pa_cons (pe_var (ix_get hN) hv hd hcd) pa_s hs) hdb hs hpl) ?_
    obtain ⟨a1, fl0, e0, _⟩ := o.giveA he
    refine ⟨.ref a1, e0, ha.run G H σ o.ok _ fun ws ds G1 H1 g1 r1 ⟨pre, q⟩ => ?_⟩
    have o1 := o.grow g1
    obtain ⟨a, fl, ea, ow, nd, fr, back⟩ := o1.giveA he
    rw [e0] at ea
    cases ea
    show spE Pre Rl ((V.ref a1 :: ws) ++ []) H1 k E0
    rw [List.append_nil]
    exact ⟨G1, a1, fl, m, ws, ds, rfl, o1.gr.sg, ow, nd, fr, r1, pre, fun v r m' G' H' fl' g ow' nd' fr' dt hR => f v r G' H' _ (back G' H' m' fl' g ow' nd' fr') (g1.g.trans g.g) dt (q r m' hR)⟩⟩
end

structure PeI (X : Cx) (tg iter : Expr) (δ : List Cell) (Q : List D → List Cell → Prop) : Prop where
  run : ∀ (G0 H0 G H : Hp) (σ : St), Okb G0 H0 G H σ δ → ∀ R : It → Hp → Prop, (∀ J G' H' δ' ds, Okb G0 H0 G' H' σ δ' → Same G G' → Wk J ds G' → Q ds δ' → R J H') → sI X tg iter σ H R
section
variable {X : Cx} {e a b c tg iter : Expr} {es : List Expr} {st : Stmt} {rest body : List Stmt} {δ : List Cell} {N : List Cell → Prop} {R : D → List Cell → Prop} {pos p p2 : Pos} {x : Str}
theorem sd_setE {i : Nat} (hN : X.N.Nodup) (hi : X.N.findIdx? (fun y => y == x) = some i) (hx : Loc X.env.scope x) (he : Pe X e δ fun d δ' => Sd X rest (δ'.set i (.im d)) N R) (hs : swapsWith e (some (.Name x p)) pos.line X.env = pure false := by rfl)
    (hf : X.fn x = true ∨ X.env.scope.names.lookup x = some .local := by first | exact .inl rfl | exact .inr rfl) : Sd X (.Assign [.Name x p] e pos :: rest) δ N R :=
  sd_step (ps_set hN (ix_get hi) hx pe_s hs hf) fun G0 H0 G H σ o E f g => he.run G0 H0 G H σ o _ fun v d G' H' δ' o' s' r q => f G' H' _ _ (o'.set i r) q
theorem sd_retE (he : Pe X e δ fun d δ' => R d δ') : Sd X (.Return (some e) pos :: rest) δ N R :=
  sd_step (ps_ret pe_s) fun G0 H0 G H σ o E f g => he.run G0 H0 G H σ o _ fun v d G' H' δ' o' s' r q => g v d G' H' σ δ' o' r q
theorem sd_ifE {ta tb : List Stmt} (hc : PeT X c δ fun t δ' => (t = true → Sd X ta δ' (fun δ'' => Sd X rest δ'' N R) R) ∧ (t = false → Sd X tb δ' (fun δ'' => Sd X rest δ'' N R) R)) : Sd X (.If c ta tb pos :: rest) δ N R :=
  sd_step (ps_if pt_s pss_s pss_s) fun G0 H0 G H σ o E f g => hc.run G0 H0 G H σ o _ fun t G' H' δ' o' s' ⟨h1, h2⟩ => by
    cases t with
    | true => exact (h1 rfl).run G0 H0 G' H' σ o' E f g
    | false => exact (h2 rfl).run G0 H0 G' H' σ o' E f g
theorem pei_range1 {Q : List D → List Cell → Prop} (hm : X.mg "range" = none) (h : PeA X [a] δ fun ds δ' => ∃ j : Int, ds = [.int j] ∧ j ≤ 100000 ∧ -100000 ≤ j ∧ Q (rgD 0 j.toNat) δ') (hg : Gl X "range" := by rfl) (hs : starEach [a] X.env = [(false, eval a X.env)] := by rfl) : PeI X tg (.Call (.Name "range" p) [a] [] pos) δ Q :=
  ⟨fun G0 H0 G H σ o R f => sI_of (pi_range1 hg hm pa_s hs) (h.run G0 H0 G H σ o _ fun vs ds G1 H1 δ1 o1 s1 r1 ⟨j, e, h1, h2, q⟩ => by
    subst e
    obtain ⟨v, rfl, h⟩ := r1.one
    cases h
    exact ⟨j, rfl, by omega, by omega, f _ G1 H1 δ1 _ o1 s1 (wk_range (le_line (by omega))) q⟩)⟩
theorem pei_tup {Q : List D → List Cell → Prop} (h : Pe X e δ fun d δ' => ∃ ds, d = .tup ds ∧ Q ds δ') : PeI X tg e δ Q :=
  ⟨fun G0 H0 G H σ o R f => sI_of (pi_tup pe_s) (h.run G0 H0 G H σ o _ fun v d G1 H1 δ1 o1 s1 r1 ⟨ds, e1, q⟩ => by
    subst e1
    cases r1 with
    | tup e z r => exact ⟨_, rfl, ⟨_, .of (o1.gr.sg _ _ e)⟩, f _ G1 H1 δ1 ds o1 s1 (wk_tup e z r) q⟩)⟩
theorem sd_forE {is : List Nat} (hp : PassesOwn (model X.prog X.w) X.A X.env X.xe) (hc : X.calm = true)
    (hi : PeI X tg iter δ fun ds δ0 => ∃ (α : Type) (xs : List α) (enc : α → D) (I : Nat → List Cell → Prop), ds = xs.map enc ∧ I 0 δ0 ∧
      (∀ (i : Nat) (x : α) (δ' : List Cell), xs[i]? = some x → I i δ' → PwG X tg (enc x) δ' is fun δ2 => Sd X body δ2 (I (i + 1)) R) ∧ (∀ δ', I xs.length δ' → Sd X rest δ' N R))
    (hs : ∀ x, foldedSetIterable iter X.env x = pure x := by intro _; rfl) : Sd X (.For tg iter body [] pos :: rest) δ N R :=
  sd_step (ps_for hp hc pi_s pg_s pss_s hs) fun G0 H0 G H σ o E f g => hi.run G0 H0 G H σ o _ fun J G1 H1 δ1 ds o1 s1 wk ⟨α, xs, enc, I, e, h0, hb, hd⟩ => by
    subst e
    have hlen : (xs.map enc).length = xs.length := List.length_map ..
    refine ⟨fun i m σ2 H2 => m = xs.length - i ∧ i ≤ xs.length ∧ ∃ G2 δ2, Okb G0 H0 G2 H2 σ2 δ2 ∧ Same G1 G2 ∧ I i δ2, ⟨xs.length, by simp, Nat.zero_le _, G1, δ1, o1, Same.refl _, h0⟩, ?_⟩
    rintro i m σ2 H2 ⟨rfl, hi2, G2, δ2, o2, s2, I2⟩
    have sg2 : Same G1 H2 := s2.trans o2.gr.sg
    by_cases hlt : i < xs.length
    · refine .inr ⟨wk.go i H2 sg2 (by rw [hlen]; exact hlt), fun σ3 H3 => i + 1 ≤ xs.length ∧ ∃ G2 δ2, Okb G0 H0 G2 H3 σ3 δ2 ∧ Same G1 G2 ∧ I (i + 1) δ2, fun σ3 H3 ⟨h1, h2⟩ => ⟨xs.length - (i + 1), by omega, rfl, h1, h2⟩, fun x H3 y => ?_⟩
      obtain ⟨G3, d, hd3, g3, rx⟩ := wk.yld i H2 x H3 sg2 (by rw [hlen]; exact hlt) y G2 o2.gr.sg s2
      rw [List.getElem?_map, List.getElem?_eq_getElem hlt] at hd3
      cases hd3
      refine (hb i xs[i] δ2 (List.getElem?_eq_getElem hlt) I2).run G3 H3 σ2 x g3.sg rx _ fun σ4 δ4 s4 h4 => ?_
      have o4 : Okb G0 H0 G3 H3 σ4 δ4 := s4.okb (o2.grow g3)
      obtain ⟨Hb, ob, back⟩ := o4.rebase
      refine h4.run G3 Hb G3 H3 σ4 ob _ (fun G5 H5 σ5 δ5 o5 n5 => ?_) fun v d G5 H5 σ5 δ5 o5 r5 q5 => ?_
      · obtain ⟨h1, h2⟩ := back _ _ _ _ o5
        exact ⟨hlt, G5, δ5, h1, s2.trans (g3.g.trans h2), n5⟩
      · exact g v d G5 H5 σ5 δ5 (back _ _ _ _ o5).1 r5 q5
    · have e : i = xs.length := by omega
      subst e
      exact .inl ⟨by have := wk.stop H2 sg2; rwa [hlen] at this, f G2 H2 σ2 δ2 o2 (hd δ2 I2)⟩
/-- x[e] = v of a list at a known place -/
theorem sd_putLA {i : Nat} {l : List D} {a0 : Addr} {value : Expr} {pt : Pos} (hN : X.N.findIdx? (fun y => y == x) = some i) (he : δ[i]? = some (Cell.ow (.at a0 (.lst l)))) (hv : Vis X.env.scope x)
    (h : Pw X value δ fun dv => Pw X e δ fun d => ∃ k j, d = .int k ∧ ixN l.length k = some j ∧ Sd X rest (δ.set i (.ow (.at a0 (.lst (l.set j dv))))) N R) (hd : (x == ("__debug__" : Str)) = false := by decide) (hcd : (x == ("__classdict__" : Str)) = false := by decide)
    (hs : swapsWithSole [.Subscript (.Name x p) e pt] value pos.line X.env = pure false := by rfl) (hw : swappedStores [.Subscript (.Name x p) e pt] value X.env = pure none := by rfl)
    (h1 : (assignEach [.Subscript (.Name x p) e pt] X.env).map (·.2) = [assign (.Subscript (.Name x p) e pt) X.env] := by rfl)
    (ha : ∀ v, assign (.Subscript (.Name x p) e pt) X.env v = (do
      let ov ← holding [v] (eval (.Name x p) X.env)
      let iv ← holding [v, ov] (eval e X.env)
      standAt pt
      holding [v, ov, iv] (setItem ov iv v)
      release [v, ov, iv] []) := by intro _; rfl) : Sd X (.Assign [.Subscript (.Name x p) e pt] value pos :: rest) δ N R :=
  sd_step (ps_asg pe_s (pg_sub (pe_var (ix_get hN) hv hd hcd) pe_s set_list ha) hs hw h1) fun G0 H0 G H σ o E f g => by
    obtain ⟨a, fl, e1, h2, _⟩ := o.own he
    refine h.run G H σ o.ok _ fun v0 d0 G1 H1 g1 r1 hh => ⟨.ref a, e1, hh.run G1 H1 σ (o.grow g1).ok _ fun v d G' H' g' r ⟨k, j, ed, hj, q⟩ => ?_⟩
    subst ed
    cases r
    have gg := g1.trans g'
    obtain ⟨fl', h2', k'⟩ := own_step o he e1 gg
    obtain ⟨ea, rfl, z', vs', e', r'⟩ := h2'
    refine ⟨a, vs', k, j, rfl, rfl, e', by rw [r'.length]; exact hj, f G' _ σ _ (k' _ (.at a0 (.lst (l.set j d0))) (fun b hb => upd_ne (by simpa using hb)) ⟨ea, rfl, ?_, _, upd_same, r'.set (g'.dt r1) j⟩) q⟩
    rw [List.length_set]; exact z'
end
end AL
namespace AL
open PySem PySem.Spec PyProof.Rows L2 Mi
local macro_rules | `(tactic| walk_at "v") => `(tactic| first | exact Or.inl rfl | exact Or.inr rfl | exact Or.inr (Or.inl rfl) | exact Or.inr (Or.inr rfl))
local macro_rules | `(tactic| walk_at "we") => `(tactic| first
  | refine pw_nm rfl (by walk_at "v") rfl ?_
  | refine pw_int ?_
  | refine pw_str ?_
  | refine pw_bl ?_
  | (refine gEcmp ?_; walk_at "wc")
  | refine pw_ix ?_
  | (refine gEcall ?_; walk_at "wf")
  | refine pw_tup ?_
  | refine AL.pw_and ?_
  | refine AL.pw_or ?_
  | refine AL.pw_one ?_
  | refine AL.pw_not ?_
  | (refine gEbin ?_; walk_at "wb")
  | refine pw_slice ?_
  | refine pw_lst ?_
  | refine pw_ife ?_
  | refine pw_neg ?_
  | refine pw_non ?_
  | refine pw_gint rfl (Txt.c_MOST_NOUNS (by assumption)) ?_
  | refine pw_gint rfl (Txt.c_MOST_VERBS (by assumption)) ?_
  | refine pw_gint rfl (Txt.c_MOST_PREMISES (by assumption)) ?_
  | refine pw_gint rfl (Txt.c_MOST_SPEAKER (by assumption)) ?_
  | refine pw_gint rfl (Txt.c_MOST_ASSERTIONS (by assumption)) ?_
  | refine pw_gint rfl (Txt.c_MOST_COMMANDS (by assumption)) ?_
  )
local macro_rules | `(tactic| walk_at "wc") => `(tactic| first
  | refine pw_eqS (by assumption) ?_
  | refine pw_eq ?_
  | refine pw_ne ?_
  | refine pw_chainLe ?_
  | refine pw_lt ?_
  | refine pw_le ?_
  | refine pw_gt ?_
  | refine pw_ge ?_
  | refine pw_inG (Txt.c_TWO_NOUNS (by assumption)) rfl ?_
  | refine pw_inG (Txt.c_QUANTITIES (by assumption)) rfl ?_
  )
local macro_rules | `(tactic| walk_at "wf") => `(tactic| first
  | refine pw_len (Txt.b_len (by assumption)) ?_
  | refine pw_isi_int (Txt.b_isinstance (by assumption)) (Txt.b_int (by assumption)) ?_
  | refine pw_isi_bool (Txt.b_isinstance (by assumption)) (Txt.b_bool (by assumption)) ?_
  | refine pw_isi_str (Txt.b_isinstance (by assumption)) (Txt.b_str (by assumption)) ?_
  | refine pw_isi_tuple (Txt.b_isinstance (by assumption)) (Txt.b_tuple (by assumption)) ?_
  | refine pw_isi_list (Txt.b_isinstance (by assumption)) (Txt.b_list (by assumption)) ?_
  | refine pw_tuple (Txt.b_tuple (by assumption)) ?_
  | refine pw_any rfl (Txt.b_any (by assumption)) ?_
  | refine pw_all rfl (Txt.b_all (by assumption)) ?_
  | refine pw_sum rfl (Txt.b_sum (by assumption)) ?_
  | refine pw_min2 rfl (Txt.b_min (by assumption)) ?_
  | refine pw_max2 rfl (Txt.b_max (by assumption)) ?_
  | refine pw_toInt (Txt.b_int (by assumption)) ?_
  | refine pw_call (by assumption) (by assumption) (by decide) rfl ?_
  )
local macro_rules | `(tactic| walk_at "wb") => `(tactic| first
  | refine pw_add ?_
  | refine pw_sub ?_
  | refine pw_mul ?_
  | refine pw_fdiv ?_
  | refine pw_mod ?_
  )
local macro_rules | `(tactic| walk_at "wt") => `(tactic| first
  | (refine gTcmp ?_; walk_at "wd")
  | refine pwt_w ?_
  | refine pwt_not ?_
  | refine pwt_tru (fun _ => rfl) ?_
  )
local macro_rules | `(tactic| walk_at "wd") => `(tactic| first
  | refine pwt_eqS (by assumption) ?_
  | refine pwt_eq ?_
  | refine pwt_ne ?_
  | refine pwt_lt ?_
  | refine pwt_le ?_
  | refine pwt_gt ?_
  | refine pwt_ge ?_
  | refine pwt_inG (Txt.c_TWO_NOUNS (by assumption)) rfl ?_
  | refine pwt_inG (Txt.c_QUANTITIES (by assumption)) rfl ?_
  | refine pwt_inTup ?_
  | refine pwt_inLst ?_
  )
local macro_rules | `(tactic| walk_at "wl") => `(tactic| first
  | refine br_t rfl ?_
  | refine br_f rfl ?_
  | refine rb_t rfl ?_
  | refine rb_f rfl ?_
  | refine ⟨_, rfl, ?_⟩
  | refine ⟨_, _, rfl, rfl, ?_⟩
  | refine ⟨_, _, rfl, ?_⟩
  | refine ⟨rfl, ?_⟩
  | refine ⟨dp_ok _ rfl rfl, ?_⟩
  | refine ⟨_, _, _, rfl, rfl, rfl, ?_⟩
  | refine ⟨le_line (Nat.le_of_ble_eq_true rfl), ?_⟩
  | refine ⟨_, _, _, rfl, rfl, ?_⟩
  | exact rfl
  )
local macro_rules | `(tactic| walk_at "w1") => `(tactic| first
  | (refine gE ?_; walk_at "we")
  | (refine gT ?_; walk_at "wt")
  | (refine gA ?_; first | refine pwa_cons ?_ | refine pwa_nil ?_)
  | (refine gW ?_; first | refine pww_and ?_ | refine pww_or ?_ | refine pww_and1 ?_ | refine pww_or1 ?_)
  | (refine gS ?_; walk_at "nf"; first | refine sd_ret ?_ | refine sd_if ?_ | refine sd_newLN (by assumption) rfl (by walk_at "v") (Nat.le_of_ble_eq_true rfl) ?_ | refine sd_setN (by assumption) rfl (by walk_at "v") ?_ | refine sd_appendN rfl rfl (by walk_at "v") ?_ | refine sd_nil ?_)
  | (refine gP ?_; first | refine pwp_none ?_ | refine pwp_some ?_)
  | walk_at "wl"
  )
local macro_rules | `(tactic| walk_at "w") => `(tactic| repeat walk_at "w1")

section
variable {P : Program} {w : World} {K : PySem.W.Frag} {mg : Str → Option Value} {base : Heap}
def strM (L : List Int) (c : Int) (k : Nat) : M := .lst [.lst (L.map .int), .int c, .int ((k : Nat) : Int)]
def IsStr (m : M) : Prop := ∃ L c k, m = strM L c k
def Pre_next : M → List D → Prop := fun m ds => ∃ (L : List Int) (c : Int) (k : Nat) (many : Int), m = strM L c k ∧ ds = [.int many] ∧ 0 < many ∧ many < 1000
def R_next : M → List D → D → M → Prop := fun _ ds r m' => ∃ (many d : Int), ds = [.int many] ∧ r = .int d ∧ 0 ≤ d ∧ d < many ∧ IsStr m'
def ifTrue : List Stmt → List Stmt
  | .If _ t _ _ :: _ => t
  | _ => []
local macro_rules | `(tactic| walk_at "nf") => `(tactic| first | refine nfS (δ' := [_, _, _, _, _]) rfl ?_ | refine nfE (δ' := [_, _, _, _, _]) rfl ?_ | refine nfT (δ' := [_, _, _, _, _]) rfl ?_ | refine nfTs (δ' := [_, _, _, _, _]) rfl ?_ | refine nfI (δ' := [_, _, _, _, _]) rfl ?_ | refine nfG (δ' := [_, _, _, _, _]) rfl ?_ | refine nfX (δ' := [_, _, _, _, _]) rfl ?_ | refine nfXO (δ' := [_, _, _, _, _]) rfl ?_)
theorem fn_next (T : Txt K mg) : FnE P w K mg base "_law_next" 1 Pre_next R_next := by
  obtain ⟨f, fd, hm, F⟩ := T.d_law_next
  refine ⟨f, fd, _, hm, F.kp, F.binds (fun _ _ _ _ _ _ us hl => match us, hl with | [_, _], _ => rfl), fn_effF F sc_law_next (fun m ds ⟨_, _, _, _, _, h, _⟩ => by rw [h]; rfl) ?_⟩
  rintro m ds ⟨L, c, k, many, rfl, rfl, h0, h1⟩ a cdv A outer s H E hr
  have nd := sc_law_next.nd
  -- the digit
  have tail : ∀ (c : Int) (k : Nat) (c2 c3 : Cell), Sd (fx P w K mg base ["_law_stream_here", "_law_many", "_law_k", "_law_cell", "_law_digit"] "_law_next" (defScope s_law_next) f cdv A outer s H E) ((defBody s_law_next).drop 1)
      [.ow (.at a (strM L c k)), .im (.int many), c2, c3, .un] (fun δ' => ∃ m', δ'[0]? = some (.ow (.at a m')) ∧ R_next (strM L c k) [.int many] .non m') (fun d δ' => ∃ m', δ'[0]? = some (.ow (.at a m')) ∧ R_next (strM L c k) [.int many] d m') := by
    intro c k c2 c3
    refine sd_setN nd rfl (by walk_at "v") ?_
    refine pw_borrow 0 rfl rfl ?_
    walk_at "w"
    refine ⟨h0, rfl, ?_⟩
    walk_at "nf"
    refine sd_putLA rfl rfl (by walk_at "v") ?_
    refine pw_borrow 0 rfl rfl ?_
    walk_at "w"
    refine ⟨⟨h0, by omega⟩, rfl, ?_⟩
    walk_at "w"
    exact ⟨Int.emod_nonneg _ (by omega), Int.emod_lt_of_pos _ h0, L, c / many, k, rfl⟩
  have put : ∀ (c0 : Int), Sd (fx P w K mg base ["_law_stream_here", "_law_many", "_law_k", "_law_cell", "_law_digit"] "_law_next" (defScope s_law_next) f cdv A outer s H E) ((ifTrue (defBody s_law_next)).drop 3)
      [.ow (.at a (strM L c k)), .im (.int many), .im (.int k), .im (.int c0), .un] (fun δ' => Sd (fx P w K mg base ["_law_stream_here", "_law_many", "_law_k", "_law_cell", "_law_digit"] "_law_next" (defScope s_law_next) f cdv A outer s H E) ((defBody s_law_next).drop 1) δ' (fun δ' => ∃ m', δ'[0]? = some (.ow (.at a m')) ∧ R_next (strM L c k) [.int many] .non m') (fun d δ' => ∃ m', δ'[0]? = some (.ow (.at a m')) ∧ R_next (strM L c k) [.int many] d m')) (fun d δ' => ∃ m', δ'[0]? = some (.ow (.at a m')) ∧ R_next (strM L c k) [.int many] d m') := by
    have fin : ∀ (c1 : Int), Sd (fx P w K mg base ["_law_stream_here", "_law_many", "_law_k", "_law_cell", "_law_digit"] "_law_next" (defScope s_law_next) f cdv A outer s H E) ((ifTrue (defBody s_law_next)).drop 4)
      [.ow (.at a (strM L c k)), .im (.int many), .im (.int k), .im (.int c1), .un] (fun δ' => Sd (fx P w K mg base ["_law_stream_here", "_law_many", "_law_k", "_law_cell", "_law_digit"] "_law_next" (defScope s_law_next) f cdv A outer s H E) ((defBody s_law_next).drop 1) δ' (fun δ' => ∃ m', δ'[0]? = some (.ow (.at a m')) ∧ R_next (strM L c k) [.int many] .non m') (fun d δ' => ∃ m', δ'[0]? = some (.ow (.at a m')) ∧ R_next (strM L c k) [.int many] d m')) (fun d δ' => ∃ m', δ'[0]? = some (.ow (.at a m')) ∧ R_next (strM L c k) [.int many] d m') := by
      intro c1
      refine sd_putLA rfl rfl (by walk_at "v") ?_
      walk_at "w"
      walk_at "nf"
      refine sd_putLA rfl rfl (by walk_at "v") ?_
      exact pw_add (pw_nm rfl (by walk_at "v") rfl (pw_int ⟨_, _, rfl, rfl, pw_int ⟨_, _, rfl, rfl, sd_nil (tail c1 (k+1) _ _)⟩⟩))
    intro c0
    refine sd_if ?_
    walk_at "w"
    refine pw_pow (pw_int (pw_int ⟨_, _, rfl, rfl, ⟨by decide, by decide, by decide⟩, _, _, rfl, rfl, fun _ => ?_, fun _ => sd_nil (fin _)⟩))
    walk_at "w"
    refine ⟨.inr ⟨by decide, by decide⟩, ?_⟩
    walk_at "w"
    refine ⟨.inr ⟨by decide, by decide⟩, ?_⟩
    walk_at "w"
    refine ⟨by decide, ?_⟩
    walk_at "nf"
    refine sd_setN nd rfl (by walk_at "v") ?_
    walk_at "w"
    refine ⟨.inr ⟨by decide, by decide⟩, ?_⟩
    walk_at "w"
    refine ⟨by decide, ?_⟩
    walk_at "w"
    refine ⟨.inr ⟨by decide, by decide⟩, pw_nm rfl (by walk_at "v") rfl ⟨_, _, rfl, rfl, sd_nil (fin _)⟩⟩
  walk_at "nf"
  refine sd_if (pwt_borrow 0 rfl rfl ?_)
  walk_at "w"
  refine ⟨fun e0 => ?_, fun _ => sd_nil (tail c k _ _)⟩
  walk_at "nf"
  refine sd_setN nd rfl (by walk_at "v") (pw_borrow 0 rfl rfl (pw_ix (pw_nm rfl (by walk_at "v") rfl (pw_int ⟨_, _, _, rfl, rfl, rfl, rfl, ?_⟩))))
  walk_at "nf"
  refine sd_setN nd rfl (by walk_at "v") (pw_add (pw_int (pw_nm rfl (by walk_at "v") rfl ⟨_, _, rfl, rfl, ?_⟩)))
  walk_at "nf"
  refine sd_if (pwt_borrow 0 rfl rfl ?_)
  walk_at "w"
  refine ⟨fun h => ?_, fun _ => sd_nil ?_⟩
  · have hlt : k < L.length := by simpa using h
    walk_at "nf"
    refine sd_setN nd rfl (by walk_at "v") (pw_borrow 0 rfl rfl (pw_abs T.b_abs (pwa_cons ?_)))
    walk_at "w"
    have hx : L[k]? = some L[k] := List.getElem?_eq_getElem hlt
    exact ⟨_, _, _, rfl, rfl, atI_map hx, pwa_nil ⟨_, rfl, rfl, sd_nil (put _)⟩⟩
  · exact put _
end
end AL
namespace AL
open PySem PySem.Spec PyProof.Rows L2 Mi
local macro_rules | `(tactic| walk_at "v") => `(tactic| first | exact Or.inl rfl | exact Or.inr rfl | exact Or.inr (Or.inl rfl) | exact Or.inr (Or.inr rfl))
local macro_rules | `(tactic| walk_at "we") => `(tactic| first
  | refine pw_nm rfl (by walk_at "v") rfl ?_
  | refine pw_int ?_
  | refine pw_str ?_
  | refine pw_bl ?_
  | (refine gEcmp ?_; walk_at "wc")
  | refine pw_ix ?_
  | (refine gEcall ?_; walk_at "wf")
  | refine pw_tup ?_
  | refine AL.pw_and ?_
  | refine AL.pw_or ?_
  | refine AL.pw_one ?_
  | refine AL.pw_not ?_
  | (refine gEbin ?_; walk_at "wb")
  | refine pw_slice ?_
  | refine pw_lst ?_
  | refine pw_ife ?_
  | refine pw_neg ?_
  | refine pw_non ?_
  | refine pw_gint rfl (Txt.c_MOST_NOUNS (by assumption)) ?_
  | refine pw_gint rfl (Txt.c_MOST_VERBS (by assumption)) ?_
  | refine pw_gint rfl (Txt.c_MOST_PREMISES (by assumption)) ?_
  | refine pw_gint rfl (Txt.c_MOST_SPEAKER (by assumption)) ?_
  | refine pw_gint rfl (Txt.c_MOST_ASSERTIONS (by assumption)) ?_
  | refine pw_gint rfl (Txt.c_MOST_COMMANDS (by assumption)) ?_
  )
local macro_rules | `(tactic| walk_at "wc") => `(tactic| first
  | refine pw_eqS (by assumption) ?_
  | refine pw_eq ?_
  | refine pw_ne ?_
  | refine pw_chainLe ?_
  | refine pw_lt ?_
  | refine pw_le ?_
  | refine pw_gt ?_
  | refine pw_ge ?_
  | refine pw_inG (Txt.c_TWO_NOUNS (by assumption)) rfl ?_
  | refine pw_inG (Txt.c_QUANTITIES (by assumption)) rfl ?_
  )
local macro_rules | `(tactic| walk_at "wf") => `(tactic| first
  | refine pw_len (Txt.b_len (by assumption)) ?_
  | refine pw_isi_int (Txt.b_isinstance (by assumption)) (Txt.b_int (by assumption)) ?_
  | refine pw_isi_bool (Txt.b_isinstance (by assumption)) (Txt.b_bool (by assumption)) ?_
  | refine pw_isi_str (Txt.b_isinstance (by assumption)) (Txt.b_str (by assumption)) ?_
  | refine pw_isi_tuple (Txt.b_isinstance (by assumption)) (Txt.b_tuple (by assumption)) ?_
  | refine pw_isi_list (Txt.b_isinstance (by assumption)) (Txt.b_list (by assumption)) ?_
  | refine pw_tuple (Txt.b_tuple (by assumption)) ?_
  | refine pw_any rfl (Txt.b_any (by assumption)) ?_
  | refine pw_all rfl (Txt.b_all (by assumption)) ?_
  | refine pw_sum rfl (Txt.b_sum (by assumption)) ?_
  | refine pw_min2 rfl (Txt.b_min (by assumption)) ?_
  | refine pw_max2 rfl (Txt.b_max (by assumption)) ?_
  | refine pw_toInt (Txt.b_int (by assumption)) ?_
  | refine pw_call (by assumption) (by assumption) (by decide) rfl ?_
  )
local macro_rules | `(tactic| walk_at "wb") => `(tactic| first
  | refine pw_add ?_
  | refine pw_sub ?_
  | refine pw_mul ?_
  | refine pw_fdiv ?_
  | refine pw_mod ?_
  )
local macro_rules | `(tactic| walk_at "wt") => `(tactic| first
  | (refine gTcmp ?_; walk_at "wd")
  | refine pwt_w ?_
  | refine pwt_not ?_
  | refine pwt_tru (fun _ => rfl) ?_
  )
local macro_rules | `(tactic| walk_at "wd") => `(tactic| first
  | refine pwt_eqS (by assumption) ?_
  | refine pwt_eq ?_
  | refine pwt_ne ?_
  | refine pwt_lt ?_
  | refine pwt_le ?_
  | refine pwt_gt ?_
  | refine pwt_ge ?_
  | refine pwt_inG (Txt.c_TWO_NOUNS (by assumption)) rfl ?_
  | refine pwt_inG (Txt.c_QUANTITIES (by assumption)) rfl ?_
  | refine pwt_inTup ?_
  | refine pwt_inLst ?_
  )
local macro_rules | `(tactic| walk_at "wl") => `(tactic| first
  | refine br_t rfl ?_
  | refine br_f rfl ?_
  | refine rb_t rfl ?_
  | refine rb_f rfl ?_
  | refine ⟨_, rfl, ?_⟩
  | refine ⟨_, _, rfl, rfl, ?_⟩
  | refine ⟨_, _, rfl, ?_⟩
  | refine ⟨rfl, ?_⟩
  | refine ⟨dp_ok _ rfl rfl, ?_⟩
  | refine ⟨_, _, _, rfl, rfl, rfl, ?_⟩
  | refine ⟨le_line (Nat.le_of_ble_eq_true rfl), ?_⟩
  | refine ⟨_, _, _, rfl, rfl, ?_⟩
  | exact rfl
  )
local macro_rules | `(tactic| walk_at "w1") => `(tactic| first
  | (refine gE ?_; walk_at "we")
  | (refine gT ?_; walk_at "wt")
  | (refine gA ?_; first | refine pwa_cons ?_ | refine pwa_nil ?_)
  | (refine gW ?_; first | refine pww_and ?_ | refine pww_or ?_ | refine pww_and1 ?_ | refine pww_or1 ?_)
  | (refine gS ?_; walk_at "nf"; first | refine sd_ret ?_ | refine sd_if ?_ | refine sd_newLN (by assumption) rfl (by walk_at "v") (Nat.le_of_ble_eq_true rfl) ?_ | refine sd_setN (by assumption) rfl (by walk_at "v") ?_ | refine sd_appendN rfl rfl (by walk_at "v") ?_ | refine sd_nil ?_)
  | (refine gP ?_; first | refine pwp_none ?_ | refine pwp_some ?_)
  | walk_at "wl"
  )
local macro_rules | `(tactic| walk_at "w") => `(tactic| repeat walk_at "w1")

section
variable {P : Program} {w : World} {K : PySem.W.Frag} {mg : Str → Option Value} {base : Heap}
section
variable {X : Cx} {δ : List Cell} {Q : D → List Cell → Prop} {k i : Nat} {y : Str} {e : Expr} {p p2 pos : Pos} {m : M} {a0 : Addr}
theorem pe_next (T : FnE X.prog X.w X.K X.mg X.base "_law_next" 1 Pre_next R_next) (hr : Room k X.A) (hk : 1 ≤ k) (hg : Gl X "_law_next") (hN : X.N.findIdx? (fun z => z == y) = some i) (he : δ[i]? = some (Cell.ow (.at a0 m))) (hv : Vis X.env.scope y) (hm : IsStr m)
    (ha : Pw X e δ fun d => ∃ many : Int, d = .int many ∧ 0 < many ∧ many < 1000 ∧ ∀ (t : Int) m', 0 ≤ t → t < many → IsStr m' → Q (.int t) (δ.set i (.ow (.at a0 m')))) (hd : (y == ("__debug__" : Str)) = false := by decide) (hcd : (y == ("__classdict__" : Str)) = false := by decide)
    (hs : starEach [.Name y p2, e] X.env = (false, eval (.Name y p2) X.env) :: starEach [e] X.env := by rfl) (hs2 : starEach [e] X.env = [(false, eval e X.env)] := by rfl) (hpl : (backTo pos (starEach [e] X.env)).any (·.1) = false := by rfl) : Pe X (.Call (.Name "_law_next" p) [.Name y p2, e] [] pos) δ Q := by
  refine pe_effA (m := m) T hr hk hg hN he hv (pwa_cons (ha.imp ?_) hs2) (by decide) hd hcd hs hpl
  rintro d ⟨many, rfl, h0, h1, q⟩
  obtain ⟨L, c, kk, rfl⟩ := hm
  refine pwa_nil ⟨⟨L, c, kk, many, rfl, rfl, h0, h1⟩, ?_⟩
  rintro r m' ⟨many', t, e1, rfl, h2, h3, h4⟩
  cases e1
  exact q t m' h2 h3 h4
end
def R_noun_words : List D → D → Prop := fun ds r => ds = [] ∧ r = .lst [.str "all", .str "some not", .str "no", .str "some", .str "as many", .str "fewer"]
local macro_rules | `(tactic| walk_at "nf") => `(tactic| first | refine nfS (δ' := []) rfl ?_ | refine nfE (δ' := []) rfl ?_ | refine nfT (δ' := []) rfl ?_ | refine nfTs (δ' := []) rfl ?_ | refine nfI (δ' := []) rfl ?_ | refine nfG (δ' := []) rfl ?_ | refine nfX (δ' := []) rfl ?_ | refine nfXO (δ' := []) rfl ?_)
theorem fn_noun_words (T : Txt K mg) : FnP P w K mg base "_law_noun_words" 1 R_noun_words := by
  refine fn_pure T.d_law_noun_words sc_law_noun_words (fun _ _ _ _ _ _ us hl => match us, hl with | [], _ => rfl) (fun ds r ⟨h, _⟩ => by rw [h]; rfl) ?_
  rintro ds r ⟨rfl, rfl⟩ f cdv A outer s H E hr
  walk_at "w"
def Pre_str : M → List D → Prop := fun m ds => IsStr m ∧ ds = []
def R_signature : M → List D → D → M → Prop := fun _ ds r m' => (∃ n m : Nat, r = sigD n m ∧ SigOk n m ∧ n ≤ 3) ∧ IsStr m'
local macro_rules | `(tactic| walk_at "nf") => `(tactic| first | refine nfS (δ' := [_]) rfl ?_ | refine nfE (δ' := [_]) rfl ?_ | refine nfT (δ' := [_]) rfl ?_ | refine nfTs (δ' := [_]) rfl ?_ | refine nfI (δ' := [_]) rfl ?_ | refine nfG (δ' := [_]) rfl ?_ | refine nfX (δ' := [_]) rfl ?_ | refine nfXO (δ' := [_]) rfl ?_)
theorem fn_signature (T : Txt K mg) : FnE P w K mg base "_law_signature" 2 Pre_str R_signature := by
  have F1 : FnE P w K mg base "_law_next" 1 Pre_next R_next := fn_next T
  obtain ⟨f, fd, hm, F⟩ := T.d_law_signature
  refine ⟨f, fd, _, hm, F.kp, F.binds (fun _ _ _ _ _ _ us hl => match us, hl with | [_], _ => rfl), fn_effF F sc_law_signature (fun m ds ⟨_, h⟩ => by rw [h]; rfl) ?_⟩
  rintro m ds ⟨im, rfl⟩ a cdv A outer s H E hr
  have nd := sc_law_signature.nd
  refine sd_retE (pe_ixE (pe_w ?_))
  walk_at "w"
  refine pe_next F1 hr (by decide) rfl rfl rfl (by walk_at "v") im (pw_int ⟨6, rfl, by decide, by decide, fun t m' h0 h1 im' => ?_⟩)
  have : t = 0 ∨ t = 1 ∨ t = 2 ∨ t = 3 ∨ t = 4 ∨ t = 5 := by omega
  rcases this with rfl | rfl | rfl | rfl | rfl | rfl
  · exact ⟨_, _, _, rfl, rfl, rfl, m', rfl, ⟨2, 1, rfl, ⟨by decide, by decide, by decide⟩, by decide⟩, im'⟩
  · exact ⟨_, _, _, rfl, rfl, rfl, m', rfl, ⟨2, 1, rfl, ⟨by decide, by decide, by decide⟩, by decide⟩, im'⟩
  · exact ⟨_, _, _, rfl, rfl, rfl, m', rfl, ⟨3, 0, rfl, ⟨by decide, by decide, by decide⟩, by decide⟩, im'⟩
  · exact ⟨_, _, _, rfl, rfl, rfl, m', rfl, ⟨2, 2, rfl, ⟨by decide, by decide, by decide⟩, by decide⟩, im'⟩
  · exact ⟨_, _, _, rfl, rfl, rfl, m', rfl, ⟨3, 1, rfl, ⟨by decide, by decide, by decide⟩, by decide⟩, im'⟩
  · exact ⟨_, _, _, rfl, rfl, rfl, m', rfl, ⟨1, 1, rfl, ⟨by decide, by decide, by decide⟩, by decide⟩, im'⟩
def Pre_sentence : M → List D → Prop := fun m ds => IsStr m ∧ ∃ n k : Nat, ds = [sigD n k] ∧ SigOk n k
def R_sentence : M → List D → D → M → Prop := fun _ ds r m' => ∃ (n k : Nat) (x : Sen), ds = [sigD n k] ∧ r = senD x ∧ x.ok n k ∧ IsStr m'
local macro_rules | `(tactic| walk_at "nf") => `(tactic| first | refine nfS (δ' := [_, _, _, _, _, _, _, _, _, _]) rfl ?_ | refine nfE (δ' := [_, _, _, _, _, _, _, _, _, _]) rfl ?_ | refine nfT (δ' := [_, _, _, _, _, _, _, _, _, _]) rfl ?_ | refine nfTs (δ' := [_, _, _, _, _, _, _, _, _, _]) rfl ?_ | refine nfI (δ' := [_, _, _, _, _, _, _, _, _, _]) rfl ?_ | refine nfG (δ' := [_, _, _, _, _, _, _, _, _, _]) rfl ?_ | refine nfX (δ' := [_, _, _, _, _, _, _, _, _, _]) rfl ?_ | refine nfXO (δ' := [_, _, _, _, _, _, _, _, _, _]) rfl ?_)
theorem fn_sentence (T : Txt K mg) : FnE P w K mg base "_law_sentence" 2 Pre_sentence R_sentence := by
  have F1 : FnE P w K mg base "_law_next" 1 Pre_next R_next := fn_next T
  have F2 : FnP P w K mg base "_law_noun_words" 1 R_noun_words := fn_noun_words T
  obtain ⟨f, fd, hm, F⟩ := T.d_law_sentence
  refine ⟨f, fd, _, hm, F.kp, F.binds (fun _ _ _ _ _ _ us hl => match us, hl with | [_, _], _ => rfl), fn_effF F sc_law_sentence (fun m ds ⟨_, _, _, h, _⟩ => by rw [h]; rfl) ?_⟩
  rintro m ds ⟨im, n, k, rfl, ok⟩ a cdv A outer s H E hr
  have nd := sc_law_sentence.nd
  have hn := ok.1
  have hn4 := ok.2.1
  have hk2 := ok.2.2
  refine sd_asg (is := [2, 3]) ?_
  walk_at "w"
  refine pwg_pair nd rfl rfl rfl (by walk_at "v") (by walk_at "v") ?_
  walk_at "nf"
  refine sd_setE nd rfl (by walk_at "v") (pe_next F1 hr (by decide) rfl rfl rfl (by walk_at "v") im (pw_int ⟨8, rfl, by decide, by decide, fun pk m1 p0 p1 im => ?_⟩))
  walk_at "nf"
  refine sd_setE nd rfl (by walk_at "v") (pe_next F1 hr (by decide) rfl rfl rfl (by walk_at "v") im (pw_nm rfl (by walk_at "v") rfl ⟨_, rfl, by omega, by omega, fun x m2 x0 x1 im => ?_⟩))
  walk_at "nf"
  refine sd_setE nd rfl (by walk_at "v") (pe_next F1 hr (by decide) rfl rfl rfl (by walk_at "v") im (pw_nm rfl (by walk_at "v") rfl ⟨_, rfl, by omega, by omega, fun y m3 y0 y1 im => ?_⟩))
  walk_at "nf"
  refine sd_setN nd rfl (by walk_at "v") (pw_lst (pwa_cons (pw_str (pwa_cons (pw_str (pwa_nil ⟨le_line (Nat.le_of_ble_eq_true rfl), ?_⟩))))))
  walk_at "nf"
  have hw : ∀ t : Int, 0 ≤ t → t < 2 → ∃ q : Bool, atI [D.str "all", D.str "some"] t = some (qD q) := fun t t0 t1 => by
    have : t = 0 ∨ t = 1 := by omega
    rcases this with rfl | rfl
    · exact ⟨true, rfl⟩
    · exact ⟨false, rfl⟩
  have retN : Sd (fx P w K mg base ["_law_stream_here", "_law_signature_here", "_law_nouns", "_law_verbs", "_law_pick", "_law_one", "_law_other", "_law_words", "_law_verb", "_law_does"] "_law_sentence" (defScope s_law_sentence) f cdv A outer s H E) (ifTrue ((defBody s_law_sentence).drop 5)) [Cell.ow (M.at a m3), Cell.im (sigD n k), Cell.im (D.int ↑n), Cell.im (D.int ↑k), Cell.im (D.int pk), Cell.im (D.int x), Cell.im (D.int y), Cell.im (D.lst [D.str "all", D.str "some"]), Cell.un, Cell.un] (fun δ' => Sd (fx P w K mg base ["_law_stream_here", "_law_signature_here", "_law_nouns", "_law_verbs", "_law_pick", "_law_one", "_law_other", "_law_words", "_law_verb", "_law_does"] "_law_sentence" (defScope s_law_sentence) f cdv A outer s H E) ((defBody s_law_sentence).drop 6) δ' (fun δ' => ∃ m', δ'[0]? = some (.ow (.at a m')) ∧ R_sentence m [sigD n k] .non m') (fun d δ' => ∃ m', δ'[0]? = some (.ow (.at a m')) ∧ R_sentence m [sigD n k] d m')) (fun d δ' => ∃ m', δ'[0]? = some (.ow (.at a m')) ∧ R_sentence m [sigD n k] d m') := by
    refine sd_retE (pe_tupE (pea_cons (pe_ixE (pe_w (pw_call0 F2 hr (by decide) rfl ⟨_, ⟨rfl, rfl⟩, ?_⟩)))))
    refine pe_next F1 hr (by decide) rfl rfl rfl (by walk_at "v") im (pw_int ⟨6, rfl, by decide, by decide, fun t m' h0 h1 im' => ?_⟩)
    have hx : ∃ w, atI [D.str "all", D.str "some not", D.str "no", D.str "some", D.str "as many", D.str "fewer"] t = some w ∧ ∃ sn : Sen, sn.ok n k ∧ D.tup [w, .int x, .int y] = senD sn := by
      have hx : Nn n x := ⟨x0, x1⟩
      have hy : Nn n y := ⟨y0, y1⟩
      have : t = 0 ∨ t = 1 ∨ t = 2 ∨ t = 3 ∨ t = 4 ∨ t = 5 := by omega
      rcases this with rfl | rfl | rfl | rfl | rfl | rfl
      · exact ⟨_, rfl, .all x y, ⟨hx, hy⟩, rfl⟩
      · exact ⟨_, rfl, .snot x y, ⟨hx, hy⟩, rfl⟩
      · exact ⟨_, rfl, .no x y, ⟨hx, hy⟩, rfl⟩
      · exact ⟨_, rfl, .some x y, ⟨hx, hy⟩, rfl⟩
      · exact ⟨_, rfl, .many x y, ⟨hx, hy⟩, rfl⟩
      · exact ⟨_, rfl, .fewer x y, ⟨hx, hy⟩, rfl⟩
    obtain ⟨w, e1, sn, ok2, e2⟩ := hx
    refine ⟨_, t, w, rfl, rfl, e1, pea_cons (pe_w (pw_nm rfl (by walk_at "v") rfl (pea_cons (pe_w (pw_nm rfl (by walk_at "v") rfl (pea_nil ⟨le_line (Nat.le_of_ble_eq_true rfl), m', rfl, n, k, sn, rfl, e2, ok2, im'⟩))))))⟩
  have retV : 0 < k → Sd (fx P w K mg base ["_law_stream_here", "_law_signature_here", "_law_nouns", "_law_verbs", "_law_pick", "_law_one", "_law_other", "_law_words", "_law_verb", "_law_does"] "_law_sentence" (defScope s_law_sentence) f cdv A outer s H E) ((defBody s_law_sentence).drop 6) [Cell.ow (M.at a m3), Cell.im (sigD n k), Cell.im (D.int ↑n), Cell.im (D.int ↑k), Cell.im (D.int pk), Cell.im (D.int x), Cell.im (D.int y), Cell.im (D.lst [D.str "all", D.str "some"]), Cell.un, Cell.un] (fun δ' => ∃ m', δ'[0]? = some (.ow (.at a m')) ∧ R_sentence m [sigD n k] .non m') (fun d δ' => ∃ m', δ'[0]? = some (.ow (.at a m')) ∧ R_sentence m [sigD n k] d m') := by
    intro hk
    refine sd_setE nd rfl (by walk_at "v") (pe_next F1 hr (by decide) rfl rfl rfl (by walk_at "v") im (pw_nm rfl (by walk_at "v") rfl ⟨_, rfl, by omega, by omega, fun v m4 v0 v1 im => ?_⟩))
    walk_at "nf"
    refine sd_setE nd rfl (by walk_at "v") (pe_gtE (pe_next F1 hr (by decide) rfl rfl rfl (by walk_at "v") im (pw_int ⟨3, rfl, by decide, by decide, fun dd m5 _ _ im => pe_w (pw_int ⟨_, _, rfl, rfl, ?_⟩)⟩)))
    walk_at "nf"
    refine sd_if ?_
    walk_at "w"
    refine ⟨fun _ => ?_, fun _ => sd_nil ?_⟩
    · refine sd_retE (pe_tupE (pea_cons (pe_w (pw_str (pea_cons (pe_ixE (pe_w (pw_nm rfl (by walk_at "v") rfl (pe_next F1 hr (by decide) rfl rfl rfl (by walk_at "v") im (pw_int ⟨2, rfl, by decide, by decide, fun q m6 q0 q1 im => ?_⟩))))))))))
      obtain ⟨q, e1⟩ := hw q q0 q1
      exact ⟨_, _, _, rfl, rfl, e1, pea_cons (pe_w (pw_nm rfl (by walk_at "v") rfl (pea_cons (pe_w (pw_nm rfl (by walk_at "v") rfl (pea_cons (pe_w (pw_nm rfl (by walk_at "v") rfl (pea_nil ⟨le_line (Nat.le_of_ble_eq_true rfl), _, rfl, n, k, .self q x (decide (0 < dd)) v, rfl, rfl, ⟨⟨x0, x1⟩, v0, v1⟩, im⟩)))))))))⟩
    · refine sd_retE (pe_tupE (pea_cons (pe_w (pw_str (pea_cons (pe_ixE (pe_w (pw_nm rfl (by walk_at "v") rfl (pe_next F1 hr (by decide) rfl rfl rfl (by walk_at "v") im (pw_int ⟨2, rfl, by decide, by decide, fun q m6 q0 q1 im => ?_⟩))))))))))
      obtain ⟨q, e1⟩ := hw q q0 q1
      refine ⟨_, _, _, rfl, rfl, e1, pea_cons (pe_w (pw_nm rfl (by walk_at "v") rfl (pea_cons (pe_w (pw_nm rfl (by walk_at "v") rfl (pea_cons (pe_w (pw_nm rfl (by walk_at "v") rfl (pea_cons ?_)))))))))⟩
      refine pe_eqE (pe_next F1 hr (by decide) rfl rfl rfl (by walk_at "v") im (pw_int ⟨3, rfl, by decide, by decide, fun b m7 _ _ im => pe_w (pw_int ⟨decide (b = 0), rfl, ?_⟩)⟩))
      refine pea_cons (pe_ixE (pe_w (pw_nm rfl (by walk_at "v") rfl (pe_next F1 hr (by decide) rfl rfl rfl (by walk_at "v") im (pw_int ⟨2, rfl, by decide, by decide, fun q2 m6 q0 q1 im => ?_⟩)))))
      obtain ⟨q2, e2⟩ := hw q2 q0 q1
      exact ⟨_, _, _, rfl, rfl, e2, pea_cons (pe_w (pw_nm rfl (by walk_at "v") rfl (pea_nil ⟨le_line (Nat.le_of_ble_eq_true rfl), _, rfl, n, k, .verb q x (decide (0 < dd)) v (decide (b = 0)) q2 y, rfl, rfl, ⟨⟨x0, x1⟩, ⟨y0, y1⟩, v0, v1⟩, im⟩)))⟩
  refine sd_if ?_
  walk_at "w"
  refine ⟨fun _ => ?_, fun _ => ⟨fun _ => retN, fun h => nomatch h⟩⟩
  walk_at "w"
  refine ⟨fun _ => retN, fun h => sd_nil (retV ?_)⟩
  have := of_decide_eq_false h
  omega
inductive Cmd where
  | assert (sp : Int) (x : Sen) | wd (i : Nat)
def Cmd.ok (n m : Nat) : Cmd → Prop
  | .assert sp x => 0 ≤ sp ∧ sp ≤ 5 ∧ x.ok n m
  | .wd i => i ≤ 7
def cmdD : Cmd → D
  | .assert sp x => .tup [.str "assert", .int sp, senD x]
  | .wd i => .tup [.str "withdraw", .int (i : Nat)]
def R_command : M → List D → D → M → Prop := fun _ ds r m' => ∃ (n k : Nat) (x : Cmd), ds = [sigD n k] ∧ r = cmdD x ∧ x.ok n k ∧ IsStr m'
local macro_rules | `(tactic| walk_at "nf") => `(tactic| first | refine nfS (δ' := [_, _]) rfl ?_ | refine nfE (δ' := [_, _]) rfl ?_ | refine nfT (δ' := [_, _]) rfl ?_ | refine nfTs (δ' := [_, _]) rfl ?_ | refine nfI (δ' := [_, _]) rfl ?_ | refine nfG (δ' := [_, _]) rfl ?_ | refine nfX (δ' := [_, _]) rfl ?_ | refine nfXO (δ' := [_, _]) rfl ?_)
theorem fn_command (T : Txt K mg) : FnE P w K mg base "_law_command" 3 Pre_sentence R_command := by
  have F1 : FnE P w K mg base "_law_next" 1 Pre_next R_next := fn_next T
  have F2 : FnE P w K mg base "_law_sentence" 2 Pre_sentence R_sentence := fn_sentence T
  obtain ⟨f, fd, hm, F⟩ := T.d_law_command
  refine ⟨f, fd, _, hm, F.kp, F.binds (fun _ _ _ _ _ _ us hl => match us, hl with | [_, _], _ => rfl), fn_effF F sc_law_command (fun m ds ⟨_, _, _, h, _⟩ => by rw [h]; rfl) ?_⟩
  rintro m ds ⟨im, n, k, rfl, ok⟩ a cdv A outer s H E hr
  have nd := sc_law_command.nd
  refine sd_ifE (pet_gtE (pe_next F1 hr (by decide) rfl rfl rfl (by walk_at "v") im (pw_int ⟨4, rfl, by decide, by decide, fun _ m1 _ _ im => pe_w (pw_int ⟨_, _, rfl, rfl, fun _ => ?_, fun _ => sd_nil ?_⟩)⟩)))
  · refine sd_retE (pe_tupE (pea_cons (pe_w (pw_str (pea_cons (pe_ixE (pe_w ?_)))))))
    walk_at "w"
    refine pe_next F1 hr (by decide) rfl rfl rfl (by walk_at "v") im (pw_int ⟨5, rfl, by decide, by decide, fun t m2 t0 t1 im => ?_⟩)
    have hx : ∃ sp : Int, atI [D.int 0, D.int 1, D.int 1, D.int 2, D.int 5] t = some (.int sp) ∧ 0 ≤ sp ∧ sp ≤ 5 := by
      have : t = 0 ∨ t = 1 ∨ t = 2 ∨ t = 3 ∨ t = 4 := by omega
      rcases this with rfl | rfl | rfl | rfl | rfl <;> exact ⟨_, rfl, by decide, by decide⟩
    obtain ⟨sp, e1, s0, s1⟩ := hx
    refine ⟨_, _, _, rfl, rfl, e1, pea_cons (pe_effA F2 hr (by decide) rfl rfl rfl (by walk_at "v") (pwa_cons (pw_nm rfl (by walk_at "v") rfl (pwa_nil ⟨⟨im, n, k, rfl, ok⟩, ?_⟩))))⟩
    rintro r m' ⟨n', k', x, e2, rfl, ok2, im'⟩
    cases e2
    exact pea_nil ⟨le_line (Nat.le_of_ble_eq_true rfl), m', rfl, n, k, .assert sp x, rfl, rfl, ⟨s0, s1, ok2⟩, im'⟩
  · refine sd_retE (pe_tupE (pea_cons (pe_w (pw_str (pea_cons (pe_ixE (pe_lstE (pea_cons (pe_w (pw_int (pea_cons (pe_w (pw_int (pea_cons ?_))))))))))))))
    refine pe_next F1 hr (by decide) rfl rfl rfl (by walk_at "v") im (pw_int ⟨8, rfl, by decide, by decide, fun j m2 j0 j1 im => ?_⟩)
    refine pea_nil ⟨le_line (Nat.le_of_ble_eq_true rfl), ?_⟩
    refine pe_next F1 hr (by decide) rfl rfl rfl (by walk_at "v") im (pw_int ⟨3, rfl, by decide, by decide, fun t m3 t0 t1 im => ?_⟩)
    have hx : ∃ i : Nat, atI [D.int 0, D.int 1, D.int j] t = some (.int i) ∧ i ≤ 7 := by
      have : t = 0 ∨ t = 1 ∨ t = 2 := by omega
      rcases this with rfl | rfl | rfl
      · exact ⟨0, rfl, by decide⟩
      · exact ⟨1, rfl, by decide⟩
      · refine ⟨j.toNat, ?_, by omega⟩
        rw [Int.toNat_of_nonneg j0]
        rfl
    obtain ⟨i, e1, i7⟩ := hx
    exact ⟨_, _, _, rfl, rfl, e1, pea_nil ⟨le_line (Nat.le_of_ble_eq_true rfl), _, rfl, n, k, .wd i, rfl, rfl, i7, im⟩⟩
end
end AL
namespace AL
open PySem PySem.Spec PyProof.Rows L2 Mi
local macro_rules | `(tactic| walk_at "v") => `(tactic| first | exact Or.inl rfl | exact Or.inr rfl | exact Or.inr (Or.inl rfl) | exact Or.inr (Or.inr rfl))
local macro_rules | `(tactic| walk_at "we") => `(tactic| first
  | refine pw_nm rfl (by walk_at "v") rfl ?_
  | refine pw_int ?_
  | refine pw_str ?_
  | refine pw_bl ?_
  | (refine gEcmp ?_; walk_at "wc")
  | refine pw_ix ?_
  | (refine gEcall ?_; walk_at "wf")
  | refine pw_tup ?_
  | refine AL.pw_and ?_
  | refine AL.pw_or ?_
  | refine AL.pw_one ?_
  | refine AL.pw_not ?_
  | (refine gEbin ?_; walk_at "wb")
  | refine pw_slice ?_
  | refine pw_lst ?_
  | refine pw_ife ?_
  | refine pw_neg ?_
  | refine pw_non ?_
  | refine pw_gint rfl (Txt.c_MOST_NOUNS (by assumption)) ?_
  | refine pw_gint rfl (Txt.c_MOST_VERBS (by assumption)) ?_
  | refine pw_gint rfl (Txt.c_MOST_PREMISES (by assumption)) ?_
  | refine pw_gint rfl (Txt.c_MOST_SPEAKER (by assumption)) ?_
  | refine pw_gint rfl (Txt.c_MOST_ASSERTIONS (by assumption)) ?_
  | refine pw_gint rfl (Txt.c_MOST_COMMANDS (by assumption)) ?_
  )
local macro_rules | `(tactic| walk_at "wc") => `(tactic| first
  | refine pw_eqS (by assumption) ?_
  | refine pw_eq ?_
  | refine pw_ne ?_
  | refine pw_chainLe ?_
  | refine pw_lt ?_
  | refine pw_le ?_
  | refine pw_gt ?_
  | refine pw_ge ?_
  | refine pw_inG (Txt.c_TWO_NOUNS (by assumption)) rfl ?_
  | refine pw_inG (Txt.c_QUANTITIES (by assumption)) rfl ?_
  )
local macro_rules | `(tactic| walk_at "wf") => `(tactic| first
  | refine pw_len (Txt.b_len (by assumption)) ?_
  | refine pw_isi_int (Txt.b_isinstance (by assumption)) (Txt.b_int (by assumption)) ?_
  | refine pw_isi_bool (Txt.b_isinstance (by assumption)) (Txt.b_bool (by assumption)) ?_
  | refine pw_isi_str (Txt.b_isinstance (by assumption)) (Txt.b_str (by assumption)) ?_
  | refine pw_isi_tuple (Txt.b_isinstance (by assumption)) (Txt.b_tuple (by assumption)) ?_
  | refine pw_isi_list (Txt.b_isinstance (by assumption)) (Txt.b_list (by assumption)) ?_
  | refine pw_tuple (Txt.b_tuple (by assumption)) ?_
  | refine pw_any rfl (Txt.b_any (by assumption)) ?_
  | refine pw_all rfl (Txt.b_all (by assumption)) ?_
  | refine pw_sum rfl (Txt.b_sum (by assumption)) ?_
  | refine pw_min2 rfl (Txt.b_min (by assumption)) ?_
  | refine pw_max2 rfl (Txt.b_max (by assumption)) ?_
  | refine pw_toInt (Txt.b_int (by assumption)) ?_
  | refine pw_call (by assumption) (by assumption) (by decide) rfl ?_
  )
local macro_rules | `(tactic| walk_at "wb") => `(tactic| first
  | refine pw_add ?_
  | refine pw_sub ?_
  | refine pw_mul ?_
  | refine pw_fdiv ?_
  | refine pw_mod ?_
  )
local macro_rules | `(tactic| walk_at "wt") => `(tactic| first
  | (refine gTcmp ?_; walk_at "wd")
  | refine pwt_w ?_
  | refine pwt_not ?_
  | refine pwt_tru (fun _ => rfl) ?_
  )
local macro_rules | `(tactic| walk_at "wd") => `(tactic| first
  | refine pwt_eqS (by assumption) ?_
  | refine pwt_eq ?_
  | refine pwt_ne ?_
  | refine pwt_lt ?_
  | refine pwt_le ?_
  | refine pwt_gt ?_
  | refine pwt_ge ?_
  | refine pwt_inG (Txt.c_TWO_NOUNS (by assumption)) rfl ?_
  | refine pwt_inG (Txt.c_QUANTITIES (by assumption)) rfl ?_
  | refine pwt_inTup ?_
  | refine pwt_inLst ?_
  )
local macro_rules | `(tactic| walk_at "wl") => `(tactic| first
  | refine br_t rfl ?_
  | refine br_f rfl ?_
  | refine rb_t rfl ?_
  | refine rb_f rfl ?_
  | refine ⟨_, rfl, ?_⟩
  | refine ⟨_, _, rfl, rfl, ?_⟩
  | refine ⟨_, _, rfl, ?_⟩
  | refine ⟨rfl, ?_⟩
  | refine ⟨dp_ok _ rfl rfl, ?_⟩
  | refine ⟨_, _, _, rfl, rfl, rfl, ?_⟩
  | refine ⟨le_line (Nat.le_of_ble_eq_true rfl), ?_⟩
  | refine ⟨_, _, _, rfl, rfl, ?_⟩
  | exact rfl
  )
local macro_rules | `(tactic| walk_at "w1") => `(tactic| first
  | (refine gE ?_; walk_at "we")
  | (refine gT ?_; walk_at "wt")
  | (refine gA ?_; first | refine pwa_cons ?_ | refine pwa_nil ?_)
  | (refine gW ?_; first | refine pww_and ?_ | refine pww_or ?_ | refine pww_and1 ?_ | refine pww_or1 ?_)
  | (refine gS ?_; walk_at "nf"; first | refine sd_ret ?_ | refine sd_if ?_ | refine sd_newLN (by assumption) rfl (by walk_at "v") (Nat.le_of_ble_eq_true rfl) ?_ | refine sd_setN (by assumption) rfl (by walk_at "v") ?_ | refine sd_appendN rfl rfl (by walk_at "v") ?_ | refine sd_nil ?_)
  | (refine gP ?_; first | refine pwp_none ?_ | refine pwp_some ?_)
  | walk_at "wl"
  )
local macro_rules | `(tactic| walk_at "w") => `(tactic| repeat walk_at "w1")

section
variable {P : Program} {w : World} {K : PySem.W.Frag} {mg : Str → Option Value} {base : Heap}
abbrev Asr := Int × Sen
def asrD (a : Asr) : D := .tup [.int a.1, senD a.2]
def asrsD (l : List Asr) : D := .tup (l.map asrD)
def saidBy (l : List Asr) (sp : Int) : List Sen := l.filterMap fun a => if a.1 = sp then some a.2 else none
def R_said_by : List D → D → Prop := fun ds r => ∃ (l : List Asr) (sp : Int), ds = [asrsD l, .int sp] ∧ l.length ≤ 8 ∧ r = sensD (saidBy l sp)
theorem saidBy_map (l : List Asr) (sp : Int) : l.filterMap (fun a => if a.1 = sp then some (senD a.2) else none) = (saidBy l sp).map senD := by
  unfold saidBy
  rw [List.map_filterMap]
  congr 1
  funext a
  by_cases h : a.1 = sp <;> simp [h]
theorem saidBy_len (l : List Asr) (sp : Int) : (saidBy l sp).length ≤ l.length := List.length_filterMap_le ..
local macro_rules | `(tactic| walk_at "nf") => `(tactic| first | refine nfS (δ' := [_, _, _, _]) rfl ?_ | refine nfE (δ' := [_, _, _, _]) rfl ?_ | refine nfT (δ' := [_, _, _, _]) rfl ?_ | refine nfTs (δ' := [_, _, _, _]) rfl ?_ | refine nfI (δ' := [_, _, _, _]) rfl ?_ | refine nfG (δ' := [_, _, _, _]) rfl ?_ | refine nfX (δ' := [_, _, _, _]) rfl ?_ | refine nfXO (δ' := [_, _, _, _]) rfl ?_)
theorem fn_said_by (T : Txt K mg) : FnP P w K mg base "said_by" 1 R_said_by := by
  refine fn_pure T.d_said_by sc_said_by (fun _ _ _ _ _ _ us hl => match us, hl with | [_, _], _ => rfl) (fun ds r ⟨_, _, h, _⟩ => by rw [h]; rfl) ?_
  rintro ds r ⟨l, sp, rfl, hl, rfl⟩ f cdv A outer s0 H E hr
  have nd := sc_said_by.nd
  walk_at "w"
  refine pw_lc (own := [("one", 2), ("sentence", 3)]) rfl nd (blk_of sc_said_by rfl rfl (by decide +kernel)) (pwi_tup ?_)
  walk_at "w"
  refine ⟨Asr, l, asrD, fun a => if a.1 = sp then some (senD a.2) else none, [2, 3], rfl, by decide, ?_, ?_⟩
  · rintro ⟨one, x⟩ ha _ _ _ _ _
    refine pwg_pair nd rfl rfl rfl (by walk_at "v") (by walk_at "v") ?_
    intro _ _ _ _ _; walk_at "nf"
    refine pwts_one ?_
    walk_at "w"
    refine ⟨fun h => if_neg (of_decide_eq_false h), fun h => ?_⟩
    intro _ _ _ _ _; walk_at "nf"
    walk_at "w"
    exact if_pos (of_decide_eq_true h)
  · walk_at "w"
    exact congrArg D.tup (saidBy_map l sp)
local macro_rules | `(tactic| walk_at "nf") => `(tactic| first | refine nfS (δ' := [_, _, _, _]) rfl ?_ | refine nfE (δ' := [_, _, _, _]) rfl ?_ | refine nfT (δ' := [_, _, _, _]) rfl ?_ | refine nfTs (δ' := [_, _, _, _]) rfl ?_ | refine nfI (δ' := [_, _, _, _]) rfl ?_ | refine nfG (δ' := [_, _, _, _]) rfl ?_ | refine nfX (δ' := [_, _, _, _]) rfl ?_ | refine nfXO (δ' := [_, _, _, _]) rfl ?_)
theorem fn_law_said (T : Txt K mg) : FnP P w K mg base "_law_said" 1 R_said_by := by
  refine fn_pure T.d_law_said sc_law_said (fun _ _ _ _ _ _ us hl => match us, hl with | [_, _], _ => rfl) (fun ds r ⟨_, _, h, _⟩ => by rw [h]; rfl) ?_
  rintro ds r ⟨l, sp, rfl, hl, rfl⟩ f cdv A outer s0 H E hr
  have nd := sc_law_said.nd
  walk_at "w"
  refine pw_lc (own := [("_law_one", 2), ("_law_sentence_here", 3)]) rfl nd (blk_of sc_law_said rfl rfl (by decide +kernel)) (pwi_tup ?_)
  walk_at "w"
  refine ⟨Asr, l, asrD, fun a => if a.1 = sp then some (senD a.2) else none, [2, 3], rfl, by decide, ?_, ?_⟩
  · rintro ⟨one, x⟩ ha _ _ _ _ _
    refine pwg_pair nd rfl rfl rfl (by walk_at "v") (by walk_at "v") ?_
    intro _ _ _ _ _; walk_at "nf"
    refine pwts_one ?_
    walk_at "w"
    refine ⟨fun h => if_neg (of_decide_eq_false h), fun h => ?_⟩
    intro _ _ _ _ _; walk_at "nf"
    walk_at "w"
    exact if_pos (of_decide_eq_true h)
  · walk_at "w"
    exact congrArg D.tup (saidBy_map l sp)
def behindA (l : List Asr) : Cmd → List Asr
  | .assert sp x => l ++ [(sp, x)]
  | .wd i => l.take i ++ l.drop (i + 1)
def R_law_behind : List D → D → Prop := fun ds r => ∃ (l : List Asr) (c : Cmd), ds = [asrsD l, cmdD c] ∧ l.length ≤ 8 ∧ r = asrsD (behindA l c)
theorem cutD_take (l : List D) (i : Nat) : cutD l none (some ((i : Nat) : Int)) = l.take i := by
  unfold cutD
  rw [HT.sIx_none, HT.sIx_nat, List.drop_zero, Nat.sub_zero]
  by_cases h : i ≤ l.length
  · rw [Nat.min_eq_left h]
  · rw [Nat.min_eq_right (by omega), List.take_length, List.take_of_length_le (by omega)]
theorem cutD_drop (l : List D) (i : Nat) : cutD l (some ((i : Nat) : Int)) none = l.drop i := by
  unfold cutD
  rw [HT.sIx_none, HT.sIx_nat]
  by_cases h : i ≤ l.length
  · rw [Nat.min_eq_left h, List.take_of_length_le (by rw [List.length_drop]; omega)]
  · rw [Nat.min_eq_right (by omega), List.drop_of_length_le (Nat.le_refl _), List.drop_of_length_le (by omega), List.take_nil]
local macro_rules | `(tactic| walk_at "wb") => `(tactic| first | refine pw_catT (pw_slice ?_) | refine pw_catT (pw_nm rfl (by walk_at "v") rfl (pw_tup ?_)))
local macro_rules | `(tactic| walk_at "nf") => `(tactic| first | refine nfS (δ' := [_, _]) rfl ?_ | refine nfE (δ' := [_, _]) rfl ?_ | refine nfT (δ' := [_, _]) rfl ?_ | refine nfTs (δ' := [_, _]) rfl ?_ | refine nfI (δ' := [_, _]) rfl ?_ | refine nfG (δ' := [_, _]) rfl ?_ | refine nfX (δ' := [_, _]) rfl ?_ | refine nfXO (δ' := [_, _]) rfl ?_)
theorem fn_law_behind (T : Txt K mg) : FnP P w K mg base "_law_behind" 1 R_law_behind := by
  refine fn_pure T.d_law_behind sc_law_behind (fun _ _ _ _ _ _ us hl => match us, hl with | [_, _], _ => rfl) (fun ds r ⟨_, _, h, _⟩ => by rw [h]; rfl) ?_
  rintro ds r ⟨l, c, rfl, hl, rfl⟩ f cdv A outer s0 H E hr
  have nd := sc_law_behind.nd
  cases c with
  | assert sp x =>
    walk_at "w"
    refine ⟨?_, ?_⟩
    · rw [List.length_map]
      exact le_line (by rw [List.length_singleton]; omega)
    · unfold asrsD behindA
      rw [List.map_append]
      rfl
  | wd i =>
    walk_at "w"
    have e1 : (some ((i : Int) + 1)) = some (((i + 1 : Nat) : Int)) := rfl
    rw [e1, cutD_take, cutD_drop]
    refine ⟨?_, ?_⟩
    · rw [List.length_take, List.length_drop, List.length_map]
      exact le_line (by omega)
    · unfold asrsD behindA
      rw [List.map_append, List.map_take, List.map_drop]
def R_is_command : List D → D → Prop := fun ds r => ∃ (n m : Nat) (c : Cmd), ds = [cmdD c, sigD n m] ∧ SigOk n m ∧ c.ok n m ∧ r = .bl true
local macro_rules | `(tactic| walk_at "nf") => `(tactic| first | refine nfS (δ' := [_, _]) rfl ?_ | refine nfE (δ' := [_, _]) rfl ?_ | refine nfT (δ' := [_, _]) rfl ?_ | refine nfTs (δ' := [_, _]) rfl ?_ | refine nfI (δ' := [_, _]) rfl ?_ | refine nfG (δ' := [_, _]) rfl ?_ | refine nfX (δ' := [_, _]) rfl ?_ | refine nfXO (δ' := [_, _]) rfl ?_)
theorem fn_is_command (T : Txt K mg) : FnP P w K mg base "is_command" 5 R_is_command := by
  have F1 : FnP P w K mg base "is_whole" 1 R_is_whole := fn_is_whole T
  have F2 : FnP P w K mg base "is_sentence" 4 R_is_sentence := fn_is_sentence T
  refine fn_pure T.d_is_command sc_is_command (fun _ _ _ _ _ _ us hl => match us, hl with | [_, _], _ => rfl) (fun ds r ⟨_, _, _, h, _⟩ => by rw [h]; rfl) ?_
  rintro ds r ⟨n, m, c, rfl, hs, hc, rfl⟩ f cdv A outer s0 H E hr
  have nd := sc_is_command.nd
  cases c with
  | assert sp x =>
    walk_at "w"
    refine ⟨_, mk_is_whole ⟨hc.1, hc.2.1⟩, ?_⟩
    walk_at "w"
    refine ⟨_, mk_is_sentence hc.2.2, ?_⟩
    walk_at "w"
  | wd i =>
    walk_at "w"
    exact ⟨_, mk_is_whole ⟨by omega, by have : i ≤ 7 := hc; show (i : Int) ≤ 7; omega⟩, rfl⟩
def R_is_integer : List D → D → Prop := fun ds r => ∃ d : D, ds = [d] ∧ notDict d = true ∧ r = .bl (isi d .int && !isi d .bool)
local macro_rules | `(tactic| walk_at "nf") => `(tactic| first | refine nfS (δ' := [_]) rfl ?_ | refine nfE (δ' := [_]) rfl ?_ | refine nfT (δ' := [_]) rfl ?_ | refine nfTs (δ' := [_]) rfl ?_ | refine nfI (δ' := [_]) rfl ?_ | refine nfG (δ' := [_]) rfl ?_ | refine nfX (δ' := [_]) rfl ?_ | refine nfXO (δ' := [_]) rfl ?_)
theorem fn_is_integer (T : Txt K mg) : FnP P w K mg base "_law_is_integer" 1 R_is_integer := by
  refine fn_pure T.d_law_is_integer sc_law_is_integer (fun _ _ _ _ _ _ us hl => match us, hl with | [_], _ => rfl) (fun ds r ⟨_, h, _⟩ => by rw [h]; rfl) ?_
  rintro ds r ⟨d, rfl, hd, rfl⟩ f cdv A outer s0 H E hr
  walk_at "w"
  refine ⟨hd, _, rfl, fun h => ?_, fun h => by rw [h]; rfl⟩
  walk_at "w"
  refine ⟨hd, ?_⟩
  walk_at "w"
  rw [h]
  rfl
end
end AL
namespace AL
open PySem PySem.Spec PyProof.Rows L2 Mi
local macro_rules | `(tactic| walk_at "v") => `(tactic| first | exact Or.inl rfl | exact Or.inr rfl | exact Or.inr (Or.inl rfl) | exact Or.inr (Or.inr rfl))
local macro_rules | `(tactic| walk_at "we") => `(tactic| first
  | refine pw_nm rfl (by walk_at "v") rfl ?_
  | refine pw_int ?_
  | refine pw_str ?_
  | refine pw_bl ?_
  | (refine gEcmp ?_; walk_at "wc")
  | refine pw_ix ?_
  | (refine gEcall ?_; walk_at "wf")
  | refine pw_tup ?_
  | refine AL.pw_and ?_
  | refine AL.pw_or ?_
  | refine AL.pw_one ?_
  | refine AL.pw_not ?_
  | (refine gEbin ?_; walk_at "wb")
  | refine pw_slice ?_
  | refine pw_lst ?_
  | refine pw_ife ?_
  | refine pw_neg ?_
  | refine pw_non ?_
  | refine pw_gint rfl (Txt.c_MOST_NOUNS (by assumption)) ?_
  | refine pw_gint rfl (Txt.c_MOST_VERBS (by assumption)) ?_
  | refine pw_gint rfl (Txt.c_MOST_PREMISES (by assumption)) ?_
  | refine pw_gint rfl (Txt.c_MOST_SPEAKER (by assumption)) ?_
  | refine pw_gint rfl (Txt.c_MOST_ASSERTIONS (by assumption)) ?_
  | refine pw_gint rfl (Txt.c_MOST_COMMANDS (by assumption)) ?_
  )
local macro_rules | `(tactic| walk_at "wc") => `(tactic| first
  | refine pw_eqS (by assumption) ?_
  | refine pw_eq ?_
  | refine pw_ne ?_
  | refine pw_chainLe ?_
  | refine pw_lt ?_
  | refine pw_le ?_
  | refine pw_gt ?_
  | refine pw_ge ?_
  | refine pw_inG (Txt.c_TWO_NOUNS (by assumption)) rfl ?_
  | refine pw_inG (Txt.c_QUANTITIES (by assumption)) rfl ?_
  )
local macro_rules | `(tactic| walk_at "wf") => `(tactic| first
  | refine pw_len (Txt.b_len (by assumption)) ?_
  | refine pw_isi_int (Txt.b_isinstance (by assumption)) (Txt.b_int (by assumption)) ?_
  | refine pw_isi_bool (Txt.b_isinstance (by assumption)) (Txt.b_bool (by assumption)) ?_
  | refine pw_isi_str (Txt.b_isinstance (by assumption)) (Txt.b_str (by assumption)) ?_
  | refine pw_isi_tuple (Txt.b_isinstance (by assumption)) (Txt.b_tuple (by assumption)) ?_
  | refine pw_isi_list (Txt.b_isinstance (by assumption)) (Txt.b_list (by assumption)) ?_
  | refine pw_tuple (Txt.b_tuple (by assumption)) ?_
  | refine pw_any rfl (Txt.b_any (by assumption)) ?_
  | refine pw_all rfl (Txt.b_all (by assumption)) ?_
  | refine pw_sum rfl (Txt.b_sum (by assumption)) ?_
  | refine pw_min2 rfl (Txt.b_min (by assumption)) ?_
  | refine pw_max2 rfl (Txt.b_max (by assumption)) ?_
  | refine pw_toInt (Txt.b_int (by assumption)) ?_
  | refine pw_call (by assumption) (by assumption) (by decide) rfl ?_
  )
local macro_rules | `(tactic| walk_at "wb") => `(tactic| first
  | refine pw_add ?_
  | refine pw_sub ?_
  | refine pw_mul ?_
  | refine pw_fdiv ?_
  | refine pw_mod ?_
  )
local macro_rules | `(tactic| walk_at "wt") => `(tactic| first
  | (refine gTcmp ?_; walk_at "wd")
  | refine pwt_w ?_
  | refine pwt_not ?_
  | refine pwt_tru (fun _ => rfl) ?_
  )
local macro_rules | `(tactic| walk_at "wd") => `(tactic| first
  | refine pwt_eqS (by assumption) ?_
  | refine pwt_eq ?_
  | refine pwt_ne ?_
  | refine pwt_lt ?_
  | refine pwt_le ?_
  | refine pwt_gt ?_
  | refine pwt_ge ?_
  | refine pwt_inG (Txt.c_TWO_NOUNS (by assumption)) rfl ?_
  | refine pwt_inG (Txt.c_QUANTITIES (by assumption)) rfl ?_
  | refine pwt_inTup ?_
  | refine pwt_inLst ?_
  )
local macro_rules | `(tactic| walk_at "wl") => `(tactic| first
  | refine br_t rfl ?_
  | refine br_f rfl ?_
  | refine rb_t rfl ?_
  | refine rb_f rfl ?_
  | refine ⟨_, rfl, ?_⟩
  | refine ⟨_, _, rfl, rfl, ?_⟩
  | refine ⟨_, _, rfl, ?_⟩
  | refine ⟨rfl, ?_⟩
  | refine ⟨dp_ok _ rfl rfl, ?_⟩
  | refine ⟨_, _, _, rfl, rfl, rfl, ?_⟩
  | refine ⟨le_line (Nat.le_of_ble_eq_true rfl), ?_⟩
  | refine ⟨_, _, _, rfl, rfl, ?_⟩
  | exact rfl
  )
local macro_rules | `(tactic| walk_at "w1") => `(tactic| first
  | (refine gE ?_; walk_at "we")
  | (refine gT ?_; walk_at "wt")
  | (refine gA ?_; first | refine pwa_cons ?_ | refine pwa_nil ?_)
  | (refine gW ?_; first | refine pww_and ?_ | refine pww_or ?_ | refine pww_and1 ?_ | refine pww_or1 ?_)
  | (refine gS ?_; walk_at "nf"; first | refine sd_ret ?_ | refine sd_if ?_ | refine sd_newLN (by assumption) rfl (by walk_at "v") (Nat.le_of_ble_eq_true rfl) ?_ | refine sd_setN (by assumption) rfl (by walk_at "v") ?_ | refine sd_appendN rfl rfl (by walk_at "v") ?_ | refine sd_nil ?_)
  | (refine gP ?_; first | refine pwp_none ?_ | refine pwp_some ?_)
  | walk_at "wl"
  )
local macro_rules | `(tactic| walk_at "w") => `(tactic| repeat walk_at "w1")

section
variable {P : Program} {w : World} {K : PySem.W.Frag} {mg : Str → Option Value} {base : Heap}
local macro_rules | `(tactic| walk_at "wc") => `(tactic| refine pw_isN ?_)
local macro_rules | `(tactic| walk_at "wd") => `(tactic| first | refine pwt_isN ?_ | refine pwt_notN ?_)
/-- data of a depth that _law_equal compares -/
inductive Eqb : Nat → D → Prop
  | non {k} : Eqb k .non
  | bl {k} (b : Bool) : Eqb k (.bl b)
  | int {k} (i : Int) : Eqb k (.int i)
  | str {k} (s : Str) : Eqb k (.str s)
  | tup {k} (l : List D) : l.length ≤ 1000 → (∀ d ∈ l, Eqb k d) → Eqb (k + 1) (.tup l)
  | lst {k} (l : List D) : l.length ≤ 1000 → (∀ d ∈ l, Eqb k d) → Eqb (k + 1) (.lst l)
def R_equal (k : Nat) : List D → D → Prop := fun ds r => ∃ d : D, ds = [d, d] ∧ Eqb k d ∧ r = .bl true
local macro_rules | `(tactic| walk_at "nf") => `(tactic| first | refine nfS (δ' := [_, _, _]) rfl ?_ | refine nfE (δ' := [_, _, _]) rfl ?_ | refine nfT (δ' := [_, _, _]) rfl ?_ | refine nfTs (δ' := [_, _, _]) rfl ?_ | refine nfI (δ' := [_, _, _]) rfl ?_ | refine nfG (δ' := [_, _, _]) rfl ?_ | refine nfX (δ' := [_, _, _]) rfl ?_ | refine nfXO (δ' := [_, _, _]) rfl ?_)
theorem fn_equal (T : Txt K mg) : ∀ k, FnP P w K mg base "_law_equal" (2 + k) (R_equal k) := by
  intro k
  have F1 : FnP P w K mg base "_law_is_integer" 1 R_is_integer := fn_is_integer T
  have main : ∀ (k j : Nat) (h1 : 1 ≤ j) (F2 : ∀ k', k = k' + 1 → FnP P w K mg base "_law_equal" j (R_equal k')), FnP P w K mg base "_law_equal" (j + 1) (R_equal k) := by
    intro k j h1 F2
    refine fn_pure T.d_law_equal sc_law_equal (fun _ _ _ _ _ _ us hl => match us, hl with | [_, _], _ => rfl) (fun ds r ⟨_, h, _⟩ => by rw [h]; rfl) ?_
    rintro ds r ⟨d, rfl, hd, rfl⟩ f cdv A outer s0 H E hr
    have nd := sc_law_equal.nd
    cases hd with
    | non => walk_at "w"
    | bl b =>
      walk_at "w"
      rw [decide_eq_true rfl]
    | int i =>
      walk_at "w"
      refine pw_call F1 hr h1 rfl ?_
      walk_at "w"
      refine ⟨_, ⟨_, rfl, rfl, rfl⟩, ?_⟩
      walk_at "w"
      rw [decide_eq_true rfl]
    | str s =>
      walk_at "w"
      rw [decide_eq_true rfl]
    | tup l hl hd =>
      walk_at "w"
      refine ⟨fun h => by rw [decide_eq_true rfl] at h; exact absurd h Bool.false_ne_true, fun _ => sd_nil ?_⟩
      refine sd_ret (pw_all rfl T.b_all (pwa_cons ?_))
      refine pw_lcM (own := [("_law_at", 2)]) rfl nd (blk_of sc_law_equal rfl rfl (by decide +kernel)) (pwi_range1 T.b_range ?_)
      walk_at "w"
      refine ⟨by omega, by omega, Int, rgI l.length, D.int, fun _ => .bl true, [2], rgD0 _, by decide, ?_, ?_⟩
      · intro x hx _ _ _ _ _
        have hx2 := mem_rgI.mp hx
        obtain ⟨g, rfl⟩ : ∃ g : Nat, x = (g : Int) := ⟨x.toNat, by unfold Nn at hx2; omega⟩
        have hg : g < l.length := by unfold Nn at hx2; omega
        have e1 : l[g]? = some l[g] := List.getElem?_eq_getElem hg
        refine pwg_nm nd rfl (by walk_at "v") ?_
        intro _ _ _ _ _; walk_at "nf"
        refine pw_call (F2 _ rfl) hr (Nat.le_refl _) rfl (pwa_cons (pw_ix ?_))
        walk_at "w"
        refine ⟨_, _, _, rfl, rfl, atI_nat hg, pwa_cons (pw_ix ?_)⟩
        walk_at "w"
        refine ⟨_, _, _, rfl, rfl, atI_nat hg, pwa_nil ⟨_, ⟨_, rfl, hd _ (List.getElem_mem hg), rfl⟩, rfl⟩⟩
      · walk_at "w"
        exact ⟨_, mm, congrArg D.bl (by simp)⟩
    | lst l hl hd =>
      walk_at "w"
      refine ⟨fun h => by rw [decide_eq_true rfl] at h; exact absurd h Bool.false_ne_true, fun _ => sd_nil ?_⟩
      refine sd_ret (pw_all rfl T.b_all (pwa_cons ?_))
      refine pw_lcM (own := [("_law_at", 2)]) rfl nd (blk_of sc_law_equal rfl rfl (by decide +kernel)) (pwi_range1 T.b_range ?_)
      walk_at "w"
      refine ⟨by omega, by omega, Int, rgI l.length, D.int, fun _ => .bl true, [2], rgD0 _, by decide, ?_, ?_⟩
      · intro x hx _ _ _ _ _
        have hx2 := mem_rgI.mp hx
        obtain ⟨g, rfl⟩ : ∃ g : Nat, x = (g : Int) := ⟨x.toNat, by unfold Nn at hx2; omega⟩
        have hg : g < l.length := by unfold Nn at hx2; omega
        have e1 : l[g]? = some l[g] := List.getElem?_eq_getElem hg
        refine pwg_nm nd rfl (by walk_at "v") ?_
        intro _ _ _ _ _; walk_at "nf"
        refine pw_call (F2 _ rfl) hr (Nat.le_refl _) rfl (pwa_cons (pw_ix ?_))
        walk_at "w"
        refine ⟨_, _, _, rfl, rfl, atI_nat hg, pwa_cons (pw_ix ?_)⟩
        walk_at "w"
        refine ⟨_, _, _, rfl, rfl, atI_nat hg, pwa_nil ⟨_, ⟨_, rfl, hd _ (List.getElem_mem hg), rfl⟩, rfl⟩⟩
      · walk_at "w"
        exact ⟨_, mm, congrArg D.bl (by simp)⟩
  induction k with
  | zero => exact main 0 1 (Nat.le_refl _) (fun k' h => by omega)
  | succ k ih => exact main (k + 1) (2 + k) (by omega) (fun k' h => by cases h; exact ih)
end
end AL
namespace AL
open PySem PySem.Spec PyProof.Rows L2 Mi
local macro_rules | `(tactic| walk_at "v") => `(tactic| first | exact Or.inl rfl | exact Or.inr rfl | exact Or.inr (Or.inl rfl) | exact Or.inr (Or.inr rfl))
local macro_rules | `(tactic| walk_at "we") => `(tactic| first
  | refine pw_nm rfl (by walk_at "v") rfl ?_
  | refine pw_int ?_
  | refine pw_str ?_
  | refine pw_bl ?_
  | (refine gEcmp ?_; walk_at "wc")
  | refine pw_ix ?_
  | (refine gEcall ?_; walk_at "wf")
  | refine pw_tup ?_
  | refine AL.pw_and ?_
  | refine AL.pw_or ?_
  | refine AL.pw_one ?_
  | refine AL.pw_not ?_
  | (refine gEbin ?_; walk_at "wb")
  | refine pw_slice ?_
  | refine pw_lst ?_
  | refine pw_ife ?_
  | refine pw_neg ?_
  | refine pw_non ?_
  | refine pw_gint rfl (Txt.c_MOST_NOUNS (by assumption)) ?_
  | refine pw_gint rfl (Txt.c_MOST_VERBS (by assumption)) ?_
  | refine pw_gint rfl (Txt.c_MOST_PREMISES (by assumption)) ?_
  | refine pw_gint rfl (Txt.c_MOST_SPEAKER (by assumption)) ?_
  | refine pw_gint rfl (Txt.c_MOST_ASSERTIONS (by assumption)) ?_
  | refine pw_gint rfl (Txt.c_MOST_COMMANDS (by assumption)) ?_
  )
local macro_rules | `(tactic| walk_at "wc") => `(tactic| first
  | refine pw_eqS (by assumption) ?_
  | refine pw_eq ?_
  | refine pw_ne ?_
  | refine pw_chainLe ?_
  | refine pw_lt ?_
  | refine pw_le ?_
  | refine pw_gt ?_
  | refine pw_ge ?_
  | refine pw_inG (Txt.c_TWO_NOUNS (by assumption)) rfl ?_
  | refine pw_inG (Txt.c_QUANTITIES (by assumption)) rfl ?_
  )
local macro_rules | `(tactic| walk_at "wf") => `(tactic| first
  | refine pw_len (Txt.b_len (by assumption)) ?_
  | refine pw_isi_int (Txt.b_isinstance (by assumption)) (Txt.b_int (by assumption)) ?_
  | refine pw_isi_bool (Txt.b_isinstance (by assumption)) (Txt.b_bool (by assumption)) ?_
  | refine pw_isi_str (Txt.b_isinstance (by assumption)) (Txt.b_str (by assumption)) ?_
  | refine pw_isi_tuple (Txt.b_isinstance (by assumption)) (Txt.b_tuple (by assumption)) ?_
  | refine pw_isi_list (Txt.b_isinstance (by assumption)) (Txt.b_list (by assumption)) ?_
  | refine pw_tuple (Txt.b_tuple (by assumption)) ?_
  | refine pw_any rfl (Txt.b_any (by assumption)) ?_
  | refine pw_all rfl (Txt.b_all (by assumption)) ?_
  | refine pw_sum rfl (Txt.b_sum (by assumption)) ?_
  | refine pw_min2 rfl (Txt.b_min (by assumption)) ?_
  | refine pw_max2 rfl (Txt.b_max (by assumption)) ?_
  | refine pw_toInt (Txt.b_int (by assumption)) ?_
  | refine pw_call (by assumption) (by assumption) (by decide) rfl ?_
  )
local macro_rules | `(tactic| walk_at "wb") => `(tactic| first
  | refine pw_add ?_
  | refine pw_sub ?_
  | refine pw_mul ?_
  | refine pw_fdiv ?_
  | refine pw_mod ?_
  )
local macro_rules | `(tactic| walk_at "wt") => `(tactic| first
  | (refine gTcmp ?_; walk_at "wd")
  | refine pwt_w ?_
  | refine pwt_not ?_
  | refine pwt_tru (fun _ => rfl) ?_
  )
local macro_rules | `(tactic| walk_at "wd") => `(tactic| first
  | refine pwt_eqS (by assumption) ?_
  | refine pwt_eq ?_
  | refine pwt_ne ?_
  | refine pwt_lt ?_
  | refine pwt_le ?_
  | refine pwt_gt ?_
  | refine pwt_ge ?_
  | refine pwt_inG (Txt.c_TWO_NOUNS (by assumption)) rfl ?_
  | refine pwt_inG (Txt.c_QUANTITIES (by assumption)) rfl ?_
  | refine pwt_inTup ?_
  | refine pwt_inLst ?_
  )
local macro_rules | `(tactic| walk_at "wl") => `(tactic| first
  | refine br_t rfl ?_
  | refine br_f rfl ?_
  | refine rb_t rfl ?_
  | refine rb_f rfl ?_
  | refine ⟨_, rfl, ?_⟩
  | refine ⟨_, _, rfl, rfl, ?_⟩
  | refine ⟨_, _, rfl, ?_⟩
  | refine ⟨rfl, ?_⟩
  | refine ⟨dp_ok _ rfl rfl, ?_⟩
  | refine ⟨_, _, _, rfl, rfl, rfl, ?_⟩
  | refine ⟨le_line (Nat.le_of_ble_eq_true rfl), ?_⟩
  | refine ⟨_, _, _, rfl, rfl, ?_⟩
  | exact rfl
  )
local macro_rules | `(tactic| walk_at "w1") => `(tactic| first
  | (refine gE ?_; walk_at "we")
  | (refine gT ?_; walk_at "wt")
  | (refine gA ?_; first | refine pwa_cons ?_ | refine pwa_nil ?_)
  | (refine gW ?_; first | refine pww_and ?_ | refine pww_or ?_ | refine pww_and1 ?_ | refine pww_or1 ?_)
  | (refine gS ?_; walk_at "nf"; first | refine sd_ret ?_ | refine sd_if ?_ | refine sd_newLN (by assumption) rfl (by walk_at "v") (Nat.le_of_ble_eq_true rfl) ?_ | refine sd_setN (by assumption) rfl (by walk_at "v") ?_ | refine sd_appendN rfl rfl (by walk_at "v") ?_ | refine sd_nil ?_)
  | (refine gP ?_; first | refine pwp_none ?_ | refine pwp_some ?_)
  | walk_at "wl"
  )
local macro_rules | `(tactic| walk_at "w") => `(tactic| repeat walk_at "w1")

section
variable {P : Program} {w : World} {K : PySem.W.Frag} {mg : Str → Option Value} {base : Heap}
def grp (M : Mi.Model) (g : Int) : Int × List Int := M.groups.getD g.toNat (0, [])
def having (M : Mi.Model) (x : Int) : List Int := (rgI M.groups.length).filter fun g => decide (x ∈ (grp M g).2)
def sizeOf (M : Mi.Model) (x : Int) : Int := ((having M x).map fun g => (grp M g).1).sum
structure ModOk (m : Nat) (M : Mi.Model) : Prop where
  g : M.groups.length ≤ 60
  v : M.verbs.length = m
  s : M.selves.length = m
  w : ∀ w ∈ M.verbs, w.length = M.groups.length
theorem grp_at {M : Mi.Model} {g : Nat} (h : g < M.groups.length) : atI (M.groups.map fun g => D.tup [.int g.1, intsD g.2]) ((g : Nat) : Int) = some (.tup [.int (grp M g).1, intsD (grp M g).2]) := by
  refine (atI_map (List.getElem?_eq_getElem h)).trans ?_
  unfold grp
  rw [Int.toNat_natCast, List.getD_eq_getElem?_getD, List.getElem?_eq_getElem h]
  rfl
theorem rg_nat {n : Nat} {x : Int} (hx : x ∈ rgI n) : ∃ g : Nat, x = (g : Int) ∧ g < n := by
  have := mem_rgI.mp hx
  unfold Nn at this
  exact ⟨x.toNat, by omega, by omega⟩
def R_having : List D → D → Prop := fun ds r => ∃ (m : Nat) (M : Mi.Model) (x : Int), ds = [modelD M, .int x] ∧ ModOk m M ∧ r = .lst ((having M x).map .int)
local macro_rules | `(tactic| walk_at "nf") => `(tactic| first | refine nfS (δ' := [_, _, _]) rfl ?_ | refine nfE (δ' := [_, _, _]) rfl ?_ | refine nfT (δ' := [_, _, _]) rfl ?_ | refine nfTs (δ' := [_, _, _]) rfl ?_ | refine nfI (δ' := [_, _, _]) rfl ?_ | refine nfG (δ' := [_, _, _]) rfl ?_ | refine nfX (δ' := [_, _, _]) rfl ?_ | refine nfXO (δ' := [_, _, _]) rfl ?_)
theorem fn_having (T : Txt K mg) : FnP P w K mg base "_law_having" 1 R_having := by
  refine fn_pure T.d_law_having sc_law_having (fun _ _ _ _ _ _ us hl => match us, hl with | [_, _], _ => rfl) (fun ds r ⟨_, _, _, h, _⟩ => by rw [h]; rfl) ?_
  rintro ds r ⟨m, M, x, rfl, ok, rfl⟩ f cdv A outer s0 H E hr
  have nd := sc_law_having.nd
  have hg60 := ok.g
  walk_at "w"
  refine pw_lc (own := [("_law_at", 2)]) rfl nd (blk_of sc_law_having rfl rfl (by decide +kernel)) (pwi_range1 T.b_range ?_)
  walk_at "w"
  refine ⟨by rw [List.length_map]; omega, by omega, Int, rgI M.groups.length, D.int, fun g => if (decide (x ∈ (grp M g).2)) = true then some (.int g) else none, [2], ?_, by decide, ?_, ?_⟩
  · rw [List.length_map]
    exact rgD0 _
  · intro g hg _ _ _ _ _
    obtain ⟨g, rfl, hgl⟩ := rg_nat hg
    refine pwg_nm nd rfl (by walk_at "v") ?_
    intro _ _ _ _ _; walk_at "nf"
    refine pwts_one ?_
    walk_at "w"
    refine pwt_inI ?_
    walk_at "w"
    refine ⟨_, _, _, rfl, rfl, grp_at hgl, ?_⟩
    walk_at "w"
    refine ⟨fun h => if_neg (by rw [h]; exact Bool.false_ne_true), fun h => ?_⟩
    intro _ _ _ _ _; walk_at "nf"
    walk_at "w"
    exact if_pos h
  · walk_at "w"
    rw [fm_filter]
    rfl
def R_size : List D → D → Prop := fun ds r => ∃ (m : Nat) (M : Mi.Model) (x : Int), ds = [modelD M, .int x] ∧ ModOk m M ∧ r = .int (sizeOf M x)
theorem having_rg {M : Mi.Model} {x g : Int} (h : g ∈ having M x) : g ∈ rgI M.groups.length := (List.mem_filter.mp h).1
local macro_rules | `(tactic| walk_at "nf") => `(tactic| first | refine nfS (δ' := [_, _, _]) rfl ?_ | refine nfE (δ' := [_, _, _]) rfl ?_ | refine nfT (δ' := [_, _, _]) rfl ?_ | refine nfTs (δ' := [_, _, _]) rfl ?_ | refine nfI (δ' := [_, _, _]) rfl ?_ | refine nfG (δ' := [_, _, _]) rfl ?_ | refine nfX (δ' := [_, _, _]) rfl ?_ | refine nfXO (δ' := [_, _, _]) rfl ?_)
theorem fn_size (T : Txt K mg) : FnP P w K mg base "_law_size" 2 R_size := by
  have F1 : FnP P w K mg base "_law_having" 1 R_having := fn_having T
  refine fn_pure T.d_law_size sc_law_size (fun _ _ _ _ _ _ us hl => match us, hl with | [_, _], _ => rfl) (fun ds r ⟨_, _, _, h, _⟩ => by rw [h]; rfl) ?_
  rintro ds r ⟨m, M, x, rfl, ok, rfl⟩ f cdv A outer s0 H E hr
  have nd := sc_law_size.nd
  have hg60 := ok.g
  walk_at "w"
  refine pw_lcM (own := [("_law_at", 2)]) rfl nd (blk_of sc_law_size rfl rfl (by decide +kernel)) (pwi_list ?_)
  walk_at "w"
  refine ⟨_, ⟨m, M, x, rfl, ok, rfl⟩, _, rfl, Int, having M x, D.int, fun g => .int (grp M g).1, [2], rfl, by decide, ?_, ?_⟩
  · intro g hg _ _ _ _ _
    obtain ⟨g, rfl, hgl⟩ := rg_nat (having_rg hg)
    refine pwg_nm nd rfl (by walk_at "v") ?_
    intro _ _ _ _ _; walk_at "nf"
    walk_at "w"
    refine ⟨_, _, _, rfl, rfl, grp_at hgl, ?_⟩
    walk_at "w"
  · walk_at "w"
    exact ⟨(having M x).map fun g => (grp M g).1, by rw [List.map_map]; rfl, rfl⟩
def selfAt (M : Mi.Model) (v : Int) : List Int := M.selves.getD v.toNat []
def verbAt (M : Mi.Model) (v g : Int) : List Int := (M.verbs.getD v.toNat []).getD g.toNat []
def seen1 (M : Mi.Model) (g v : Int) (b : Bool) (o : Int) : List Bool :=
  (if o = g then [decide (g ∈ selfAt M v)] else []) ++ if o ≠ g ∨ 1 < (grp M g).1 then [if b then decide (g ∈ verbAt M v o) else decide (o ∈ verbAt M v g)] else []
def seen (M : Mi.Model) (g v : Int) (b : Bool) (x : Int) : List Bool := (having M x).flatMap (seen1 M g v b)
theorem seen1_len (M : Mi.Model) (g v : Int) (b : Bool) (o : Int) : (seen1 M g v b o).length ≤ 2 := by
  unfold seen1
  by_cases h1 : o = g <;> by_cases h2 : 1 < (grp M g).1 <;> simp [h1, h2]
theorem flatMap_le {α β : Type} (f : α → List β) (k : Nat) (h : ∀ a, (f a).length ≤ k) : ∀ l : List α, (l.flatMap f).length ≤ k * l.length
  | [] => by simp
  | a :: r => by
    have h1 := h a
    have h2 := flatMap_le f k h r
    rw [List.flatMap_cons, List.length_append, List.length_cons, Nat.mul_succ]
    omega
theorem self_at {m : Nat} {M : Mi.Model} (ok : ModOk m M) {v : Int} (hv : Nn m v) : atI (M.selves.map intsD) v = some (intsD (selfAt M v)) := by
  obtain ⟨k, rfl, hk⟩ : ∃ k : Nat, v = (k : Int) ∧ k < m := ⟨v.toNat, by unfold Nn at hv; omega, by unfold Nn at hv; omega⟩
  have h : k < M.selves.length := by rw [ok.s]; exact hk
  refine (atI_map (List.getElem?_eq_getElem h)).trans ?_
  unfold selfAt
  rw [Int.toNat_natCast, List.getD_eq_getElem?_getD, List.getElem?_eq_getElem h]
  rfl
theorem verb_at {m : Nat} {M : Mi.Model} (ok : ModOk m M) {v : Int} (hv : Nn m v) : ∃ w : List (List Int), atI (M.verbs.map fun v => D.tup (v.map intsD)) v = some (.tup (w.map intsD)) ∧ ∀ g : Nat, g < M.groups.length → atI (w.map intsD) (g : Int) = some (intsD (verbAt M v (g : Int))) := by
  obtain ⟨k, rfl, hk⟩ : ∃ k : Nat, v = (k : Int) ∧ k < m := ⟨v.toNat, by unfold Nn at hv; omega, by unfold Nn at hv; omega⟩
  have h : k < M.verbs.length := by rw [ok.v]; exact hk
  refine ⟨M.verbs[k], atI_map (List.getElem?_eq_getElem h), fun g hg => ?_⟩
  have hw := ok.w _ (List.getElem_mem h)
  have hg' : g < M.verbs[k].length := by omega
  refine (atI_map (List.getElem?_eq_getElem hg')).trans ?_
  unfold verbAt
  rw [Int.toNat_natCast, Int.toNat_natCast, List.getD_eq_getElem?_getD, List.getD_eq_getElem?_getD, List.getElem?_eq_getElem h]
  show _ = some (intsD (M.verbs[k][g]?.getD []))
  rw [List.getElem?_eq_getElem hg']
  rfl
def forBody : List Stmt → List Stmt
  | .For _ _ t _ _ :: _ => t
  | _ => []
def R_seen : List D → D → Prop := fun ds r => ∃ (m : Nat) (M : Mi.Model) (g v : Int) (b : Bool) (x : Int), ds = [modelD M, .int g, .int v, .bl b, .int x] ∧ ModOk m M ∧ g ∈ rgI M.groups.length ∧ Nn m v ∧ r = .lst ((seen M g v b x).map .bl)
local macro_rules | `(tactic| walk_at "nf") => `(tactic| first | refine nfS (δ' := [_, _, _, _, _, _, _, _]) rfl ?_ | refine nfE (δ' := [_, _, _, _, _, _, _, _]) rfl ?_ | refine nfT (δ' := [_, _, _, _, _, _, _, _]) rfl ?_ | refine nfTs (δ' := [_, _, _, _, _, _, _, _]) rfl ?_ | refine nfI (δ' := [_, _, _, _, _, _, _, _]) rfl ?_ | refine nfG (δ' := [_, _, _, _, _, _, _, _]) rfl ?_ | refine nfX (δ' := [_, _, _, _, _, _, _, _]) rfl ?_ | refine nfXO (δ' := [_, _, _, _, _, _, _, _]) rfl ?_)
theorem fn_seen (T : Txt K mg) : FnP P w K mg base "_law_seen" 2 R_seen := by
  have F1 : FnP P w K mg base "_law_having" 1 R_having := fn_having T
  refine fn_pure T.d_law_seen sc_law_seen (fun _ _ _ _ _ _ us hl => match us, hl with | [_, _, _, _, _], _ => rfl) (fun ds r ⟨_, _, _, _, _, _, h, _⟩ => by rw [h]; rfl) ?_
  rintro ds r ⟨m, M, g, v, b, x, rfl, ok, hg, hv, rfl⟩ f cdv A outer s0 H E hr
  have nd := sc_law_seen.nd
  have hg60 := ok.g
  obtain ⟨g, rfl, hgl⟩ := rg_nat hg
  have zz : ∀ {k : Nat}, k ≤ 1000 → k < sizeLine := fun h => Nat.lt_of_le_of_lt h (by decide)
  obtain ⟨W, hW1, hW2⟩ := verb_at ok hv
  have hS := self_at ok hv
  have hlen : (having M x).length ≤ 60 := by
    have := List.length_filter_le (fun g => decide (x ∈ (grp M g).2)) (rgI M.groups.length)
    rw [len_rgI] at this
    exact Nat.le_trans this hg60
  walk_at "w"
  refine sd_for (is := [6]) PassesOwn.never rfl (pwi_list ?_)
  walk_at "w"
  refine ⟨_, ⟨m, M, x, rfl, ok, rfl⟩, _, rfl, Int, having M x, D.int, fun i δ' => ∃ c6 c7, δ' = [.im (modelD M), .im (.int g), .im (.int v), .im (.bl b), .im (.int x), .ow (.lst ((((having M x).take i).flatMap (seen1 M g v b)).map .bl)), c6, c7], rfl, ⟨_, _, rfl⟩, ?_, ?_⟩
  · rintro i o δ' ho ⟨c6, c7, rfl⟩
    dsimp only
    have e1 : ((having M x).take (i + 1)).flatMap (seen1 M g v b) = ((having M x).take i).flatMap (seen1 M g v b) ++ seen1 M g v b o := by
      rw [List.take_add_one, ho, List.flatMap_append]; simp
    rw [e1]
    have hl := Nat.le_trans (flatMap_le (seen1 M g v b) 2 (seen1_len M g v b) ((having M x).take i)) (Nat.mul_le_mul_left 2 (Nat.le_trans (List.length_take_le' _ _) hlen))
    obtain ⟨o, rfl, hol⟩ := rg_nat (having_rg (List.mem_of_getElem? ho))
    generalize ((having M x).take i).flatMap (seen1 M g v b) = l at *
    refine pwg_nm nd rfl (by walk_at "v") ?_
    have part2 : ∀ (l2 : List Bool), l2.length ≤ 121 → Sd (fx P w K mg base ["_law_model", "_law_group", "_law_verb", "_law_by", "_law_noun", "_law_found", "_law_other", "_law_pair"] "_law_seen" (defScope s_law_seen) f cdv A outer s0 H E) ((forBody ((defBody s_law_seen).drop 1)).drop 1)
        [.im (modelD M), .im (.int g), .im (.int v), .im (.bl b), .im (.int x), .ow (.lst (l2.map .bl)), .im (.int o), c7]
        (fun δ' => ∃ c6 c7, δ' = [.im (modelD M), .im (.int g), .im (.int v), .im (.bl b), .im (.int x), .ow (.lst ((l2 ++ (if (o : Int) ≠ g ∨ 1 < (grp M g).1 then [if b then decide ((g : Int) ∈ verbAt M v o) else decide ((o : Int) ∈ verbAt M v g)] else [])).map .bl)), c6, c7]) (fun d δ' => d = .lst ((seen M g v b x).map .bl)) := by
      intro l2 hl2
      walk_at "w"
      have fin : ∀ (t : Bool), (t = true ↔ ((o : Int) ≠ g ∨ 1 < (grp M g).1)) → ((t = true → Sd (fx P w K mg base ["_law_model", "_law_group", "_law_verb", "_law_by", "_law_noun", "_law_found", "_law_other", "_law_pair"] "_law_seen" (defScope s_law_seen) f cdv A outer s0 H E) (ifTrue ((forBody ((defBody s_law_seen).drop 1)).drop 1))
          [.im (modelD M), .im (.int g), .im (.int v), .im (.bl b), .im (.int x), .ow (.lst (l2.map .bl)), .im (.int o), c7] (fun δ' => Sd (fx P w K mg base ["_law_model", "_law_group", "_law_verb", "_law_by", "_law_noun", "_law_found", "_law_other", "_law_pair"] "_law_seen" (defScope s_law_seen) f cdv A outer s0 H E) [] δ' (fun δ' => ∃ c6 c7, δ' = [.im (modelD M), .im (.int g), .im (.int v), .im (.bl b), .im (.int x), .ow (.lst ((l2 ++ (if (o : Int) ≠ g ∨ 1 < (grp M g).1 then [if b then decide ((g : Int) ∈ verbAt M v o) else decide ((o : Int) ∈ verbAt M v g)] else [])).map .bl)), c6, c7]) (fun d δ' => d = .lst ((seen M g v b x).map .bl))) (fun d δ' => d = .lst ((seen M g v b x).map .bl))) ∧
          (t = false → Sd (fx P w K mg base ["_law_model", "_law_group", "_law_verb", "_law_by", "_law_noun", "_law_found", "_law_other", "_law_pair"] "_law_seen" (defScope s_law_seen) f cdv A outer s0 H E) [] [.im (modelD M), .im (.int g), .im (.int v), .im (.bl b), .im (.int x), .ow (.lst (l2.map .bl)), .im (.int o), c7] (fun δ' => Sd (fx P w K mg base ["_law_model", "_law_group", "_law_verb", "_law_by", "_law_noun", "_law_found", "_law_other", "_law_pair"] "_law_seen" (defScope s_law_seen) f cdv A outer s0 H E) [] δ' (fun δ' => ∃ c6 c7, δ' = [.im (modelD M), .im (.int g), .im (.int v), .im (.bl b), .im (.int x), .ow (.lst ((l2 ++ (if (o : Int) ≠ g ∨ 1 < (grp M g).1 then [if b then decide ((g : Int) ∈ verbAt M v o) else decide ((o : Int) ∈ verbAt M v g)] else [])).map .bl)), c6, c7]) (fun d δ' => d = .lst ((seen M g v b x).map .bl))) (fun d δ' => d = .lst ((seen M g v b x).map .bl)))) := by
        intro t ht
        refine ⟨fun h => ?_, fun h => sd_nil (sd_nil ⟨.im (.int o), c7, ?_⟩)⟩
        · rw [if_pos (ht.mp h)]
          cases b with
          | true =>
            walk_at "w"
            refine pw_inI ?_
            walk_at "w"
            refine ⟨_, _, _, rfl, rfl, hW1, ?_⟩
            walk_at "w"
            refine ⟨_, _, _, rfl, rfl, hW2 o hol, _, _, rfl, rfl, by rw [List.length_map]; exact zz (by omega), sd_nil (sd_nil ⟨.im (.int o), .im (.tup [.int o, .int g]), ?_⟩)⟩
            rw [List.map_append]
            rfl
          | false =>
            walk_at "w"
            refine pw_inI ?_
            walk_at "w"
            refine ⟨_, _, _, rfl, rfl, hW1, ?_⟩
            walk_at "w"
            refine ⟨_, _, _, rfl, rfl, hW2 g hgl, _, _, rfl, rfl, by rw [List.length_map]; exact zz (by omega), sd_nil (sd_nil ⟨.im (.int o), .im (.tup [.int g, .int o]), ?_⟩)⟩
            rw [List.map_append]
            rfl
        · rw [if_neg (fun h2 => by rw [ht.mpr h2] at h; cases h), List.append_nil]
      refine ⟨fun h => ?_, fun h => fin true ⟨fun _ => .inl (by simpa using h), fun _ => rfl⟩⟩
      walk_at "w"
      refine ⟨_, _, _, rfl, rfl, grp_at hgl, ?_⟩
      walk_at "w"
      refine fin _ ⟨fun h2 => .inr (of_decide_eq_true h2), fun h2 => ?_⟩
      rcases h2 with h2 | h2
      · exact absurd (by simpa using h) h2
      · exact decide_eq_true h2
    walk_at "nf"
    refine sd_if ?_
    walk_at "w"
    refine ⟨fun h => ?_, fun h => ?_⟩
    · have hog : o = g := by have := of_decide_eq_true h; omega
      subst hog
      walk_at "nf"
      refine sd_appendN rfl rfl (by walk_at "v") (pw_inI ?_)
      walk_at "w"
      refine ⟨_, _, _, rfl, rfl, hS, _, _, rfl, rfl, by rw [List.length_map]; exact zz (by omega), sd_nil ?_⟩
      have p2 := part2 (l ++ [decide ((o : Int) ∈ selfAt M v)]) (by rw [List.length_append, List.length_singleton]; omega)
      rw [show (l ++ [decide ((o : Int) ∈ selfAt M v)]).map D.bl = l.map .bl ++ [D.bl (decide ((o : Int) ∈ selfAt M v))] from List.map_append ..] at p2
      refine p2.imp (fun δ' ⟨c6, c7, e⟩ => ⟨c6, c7, ?_⟩) fun _ _ z => z
      subst e
      unfold seen1
      rw [if_pos rfl, List.append_assoc]
    · refine sd_nil ((part2 l (by omega)).imp (fun δ' ⟨c6, c7, e⟩ => ⟨c6, c7, ?_⟩) fun _ _ z => z)
      subst e
      have hog : (o : Int) ≠ g := by simpa using h
      unfold seen1
      rw [if_neg hog]
      rfl
  · rintro δ' ⟨c6, c7, rfl⟩
    rw [List.take_length]
    refine sd_freeze 5 rfl rfl ?_
    walk_at "w"
end
end AL
namespace AL
open PySem PySem.Spec PyProof.Rows L2 Mi
local macro_rules | `(tactic| walk_at "v") => `(tactic| first | exact Or.inl rfl | exact Or.inr rfl | exact Or.inr (Or.inl rfl) | exact Or.inr (Or.inr rfl))
local macro_rules | `(tactic| walk_at "we") => `(tactic| first
  | refine pw_nm rfl (by walk_at "v") rfl ?_
  | refine pw_int ?_
  | refine pw_str ?_
  | refine pw_bl ?_
  | (refine gEcmp ?_; walk_at "wc")
  | refine pw_ix ?_
  | (refine gEcall ?_; walk_at "wf")
  | refine pw_tup ?_
  | refine AL.pw_and ?_
  | refine AL.pw_or ?_
  | refine AL.pw_one ?_
  | refine AL.pw_not ?_
  | (refine gEbin ?_; walk_at "wb")
  | refine pw_slice ?_
  | refine pw_lst ?_
  | refine pw_ife ?_
  | refine pw_neg ?_
  | refine pw_non ?_
  | refine pw_gint rfl (Txt.c_MOST_NOUNS (by assumption)) ?_
  | refine pw_gint rfl (Txt.c_MOST_VERBS (by assumption)) ?_
  | refine pw_gint rfl (Txt.c_MOST_PREMISES (by assumption)) ?_
  | refine pw_gint rfl (Txt.c_MOST_SPEAKER (by assumption)) ?_
  | refine pw_gint rfl (Txt.c_MOST_ASSERTIONS (by assumption)) ?_
  | refine pw_gint rfl (Txt.c_MOST_COMMANDS (by assumption)) ?_
  )
local macro_rules | `(tactic| walk_at "wc") => `(tactic| first
  | refine pw_eqS (by assumption) ?_
  | refine pw_eq ?_
  | refine pw_ne ?_
  | refine pw_chainLe ?_
  | refine pw_lt ?_
  | refine pw_le ?_
  | refine pw_gt ?_
  | refine pw_ge ?_
  | refine pw_inG (Txt.c_TWO_NOUNS (by assumption)) rfl ?_
  | refine pw_inG (Txt.c_QUANTITIES (by assumption)) rfl ?_
  )
local macro_rules | `(tactic| walk_at "wf") => `(tactic| first
  | refine pw_len (Txt.b_len (by assumption)) ?_
  | refine pw_isi_int (Txt.b_isinstance (by assumption)) (Txt.b_int (by assumption)) ?_
  | refine pw_isi_bool (Txt.b_isinstance (by assumption)) (Txt.b_bool (by assumption)) ?_
  | refine pw_isi_str (Txt.b_isinstance (by assumption)) (Txt.b_str (by assumption)) ?_
  | refine pw_isi_tuple (Txt.b_isinstance (by assumption)) (Txt.b_tuple (by assumption)) ?_
  | refine pw_isi_list (Txt.b_isinstance (by assumption)) (Txt.b_list (by assumption)) ?_
  | refine pw_tuple (Txt.b_tuple (by assumption)) ?_
  | refine pw_any rfl (Txt.b_any (by assumption)) ?_
  | refine pw_all rfl (Txt.b_all (by assumption)) ?_
  | refine pw_sum rfl (Txt.b_sum (by assumption)) ?_
  | refine pw_min2 rfl (Txt.b_min (by assumption)) ?_
  | refine pw_max2 rfl (Txt.b_max (by assumption)) ?_
  | refine pw_toInt (Txt.b_int (by assumption)) ?_
  | refine pw_call (by assumption) (by assumption) (by decide) rfl ?_
  )
local macro_rules | `(tactic| walk_at "wb") => `(tactic| first
  | refine pw_add ?_
  | refine pw_sub ?_
  | refine pw_mul ?_
  | refine pw_fdiv ?_
  | refine pw_mod ?_
  )
local macro_rules | `(tactic| walk_at "wt") => `(tactic| first
  | (refine gTcmp ?_; walk_at "wd")
  | refine pwt_w ?_
  | refine pwt_not ?_
  | refine pwt_tru (fun _ => rfl) ?_
  )
local macro_rules | `(tactic| walk_at "wd") => `(tactic| first
  | refine pwt_eqS (by assumption) ?_
  | refine pwt_eq ?_
  | refine pwt_ne ?_
  | refine pwt_lt ?_
  | refine pwt_le ?_
  | refine pwt_gt ?_
  | refine pwt_ge ?_
  | refine pwt_inG (Txt.c_TWO_NOUNS (by assumption)) rfl ?_
  | refine pwt_inG (Txt.c_QUANTITIES (by assumption)) rfl ?_
  | refine pwt_inTup ?_
  | refine pwt_inLst ?_
  )
local macro_rules | `(tactic| walk_at "wl") => `(tactic| first
  | refine br_t rfl ?_
  | refine br_f rfl ?_
  | refine rb_t rfl ?_
  | refine rb_f rfl ?_
  | refine ⟨_, rfl, ?_⟩
  | refine ⟨_, _, rfl, rfl, ?_⟩
  | refine ⟨_, _, rfl, ?_⟩
  | refine ⟨rfl, ?_⟩
  | refine ⟨dp_ok _ rfl rfl, ?_⟩
  | refine ⟨_, _, _, rfl, rfl, rfl, ?_⟩
  | refine ⟨le_line (Nat.le_of_ble_eq_true rfl), ?_⟩
  | refine ⟨_, _, _, rfl, rfl, ?_⟩
  | exact rfl
  )
local macro_rules | `(tactic| walk_at "w1") => `(tactic| first
  | (refine gE ?_; walk_at "we")
  | (refine gT ?_; walk_at "wt")
  | (refine gA ?_; first | refine pwa_cons ?_ | refine pwa_nil ?_)
  | (refine gW ?_; first | refine pww_and ?_ | refine pww_or ?_ | refine pww_and1 ?_ | refine pww_or1 ?_)
  | (refine gS ?_; walk_at "nf"; first | refine sd_ret ?_ | refine sd_if ?_ | refine sd_newLN (by assumption) rfl (by walk_at "v") (Nat.le_of_ble_eq_true rfl) ?_ | refine sd_setN (by assumption) rfl (by walk_at "v") ?_ | refine sd_appendN rfl rfl (by walk_at "v") ?_ | refine sd_nil ?_)
  | (refine gP ?_; first | refine pwp_none ?_ | refine pwp_some ?_)
  | walk_at "wl"
  )
local macro_rules | `(tactic| walk_at "w") => `(tactic| repeat walk_at "w1")

section
variable {P : Program} {w : World} {K : PySem.W.Frag} {mg : Str → Option Value} {base : Heap}
def says (M : Mi.Model) (s : Sen) (g : Int) : Bool := match s with
  | .self _ _ d v => decide (decide (g ∈ selfAt M v) = d)
  | .verb _ _ d v b p y => if p then ((seen M g v b y).map fun t => decide (t = d)).all id else ((seen M g v b y).map fun t => decide (t = d)).any id
  | _ => false
def isVS : Sen → Bool
  | .self .. => true | .verb .. => true | _ => false
def R_says : List D → D → Prop := fun ds r => ∃ (n m : Nat) (M : Mi.Model) (s : Sen) (g : Int), ds = [modelD M, senD s, .int g] ∧ ModOk m M ∧ s.ok n m ∧ isVS s = true ∧ g ∈ rgI M.groups.length ∧ r = .bl (says M s g)
local macro_rules | `(tactic| walk_at "nf") => `(tactic| first | refine nfS (δ' := [_, _, _, _, _]) rfl ?_ | refine nfE (δ' := [_, _, _, _, _]) rfl ?_ | refine nfT (δ' := [_, _, _, _, _]) rfl ?_ | refine nfTs (δ' := [_, _, _, _, _]) rfl ?_ | refine nfI (δ' := [_, _, _, _, _]) rfl ?_ | refine nfG (δ' := [_, _, _, _, _]) rfl ?_ | refine nfX (δ' := [_, _, _, _, _]) rfl ?_ | refine nfXO (δ' := [_, _, _, _, _]) rfl ?_)
theorem fn_says (T : Txt K mg) : FnP P w K mg base "_law_says" 3 R_says := by
  have F1 : FnP P w K mg base "_law_seen" 2 R_seen := fn_seen T
  refine fn_pure T.d_law_says sc_law_says (fun _ _ _ _ _ _ us hl => match us, hl with | [_, _, _], _ => rfl) (fun ds r ⟨_, _, _, _, _, h, _⟩ => by rw [h]; rfl) ?_
  rintro ds r ⟨n, m, M, s, g, rfl, ok, hs, hvs, hg, rfl⟩ f cdv A outer s0 H E hr
  have nd := sc_law_says.nd
  cases s with
  | self q x d v =>
    have hS := self_at ok hs.2
    walk_at "w"
    refine pw_inI ?_
    walk_at "w"
    refine ⟨_, _, _, rfl, rfl, hS, ?_⟩
    walk_at "w"
  | verb q x d v b p y =>
    walk_at "w"
    walk_at "nf"
    refine sd_setLc rfl nd (blk_of (own := [("_law_one", 4)]) sc_law_says rfl rfl (by decide +kernel)) (i := 3) rfl (lcxM (pwi_list ?_))
    walk_at "w"
    refine ⟨_, ⟨m, M, g, v, b, y, rfl, ok, hg, hs.2.2, rfl⟩, _, rfl, Bool, seen M g v b y, D.bl, fun t => .bl (decide (t = d)), [4], rfl, by decide, ?_, ?_⟩
    · intro t ht _ _ _ _ _
      refine pwg_nm nd rfl (by walk_at "v") ?_
      intro _ _ _ _ _; walk_at "nf"
      walk_at "w"
    · cases p with
      | true =>
        walk_at "w"
        exact ⟨(seen M g v b y).map fun t => decide (t = d), by rw [List.map_map]; rfl, rfl⟩
      | false =>
        walk_at "w"
        exact ⟨(seen M g v b y).map fun t => decide (t = d), by rw [List.map_map]; rfl, rfl⟩
  | _ => cases hvs
def holds (M : Mi.Model) (s : Sen) : Bool := match s with
  | .many x y => decide (sizeOf M y ≤ sizeOf M x)
  | .fewer x y => decide (sizeOf M x < sizeOf M y)
  | .verb q x _ _ _ _ _ => if q then ((having M x).map (says M s)).all id else ((having M x).map (says M s)).any id
  | .self q x _ _ => if q then ((having M x).map (says M s)).all id else ((having M x).map (says M s)).any id
  | .all x y => ((having M x).map fun g => decide (y ∈ (grp M g).2)).all id
  | .snot x y => !((having M x).map fun g => decide (y ∈ (grp M g).2)).all id
  | .no x y => !((having M x).map fun g => decide (y ∈ (grp M g).2)).any id
  | .some x y => ((having M x).map fun g => decide (y ∈ (grp M g).2)).any id
def R_holds : List D → D → Prop := fun ds r => ∃ (n m : Nat) (M : Mi.Model) (s : Sen), ds = [modelD M, senD s] ∧ ModOk m M ∧ s.ok n m ∧ r = .bl (holds M s)
local macro_rules | `(tactic| walk_at "nf") => `(tactic| first | refine nfS (δ' := [_, _, _, _, _]) rfl ?_ | refine nfE (δ' := [_, _, _, _, _]) rfl ?_ | refine nfT (δ' := [_, _, _, _, _]) rfl ?_ | refine nfTs (δ' := [_, _, _, _, _]) rfl ?_ | refine nfI (δ' := [_, _, _, _, _]) rfl ?_ | refine nfG (δ' := [_, _, _, _, _]) rfl ?_ | refine nfX (δ' := [_, _, _, _, _]) rfl ?_ | refine nfXO (δ' := [_, _, _, _, _]) rfl ?_)
theorem fn_holds (T : Txt K mg) : FnP P w K mg base "_law_holds" 4 R_holds := by
  have F1 : FnP P w K mg base "_law_having" 1 R_having := fn_having T
  have F2 : FnP P w K mg base "_law_size" 2 R_size := fn_size T
  have F3 : FnP P w K mg base "_law_says" 3 R_says := fn_says T
  refine fn_pure T.d_law_holds sc_law_holds (fun _ _ _ _ _ _ us hl => match us, hl with | [_, _], _ => rfl) (fun ds r ⟨_, _, _, _, h, _⟩ => by rw [h]; rfl) ?_
  rintro ds r ⟨n, m, M, s, rfl, ok, hs, rfl⟩ f cdv A outer s0 H E hr
  have nd := sc_law_holds.nd
  cases s with
  | many x y =>
    walk_at "w"
    refine ⟨_, ⟨m, M, x, rfl, ok, rfl⟩, ?_⟩
    walk_at "w"
    exact ⟨_, ⟨m, M, y, rfl, ok, rfl⟩, _, _, rfl, rfl, rfl⟩
  | fewer x y =>
    walk_at "w"
    refine ⟨_, ⟨m, M, x, rfl, ok, rfl⟩, ?_⟩
    walk_at "w"
    exact ⟨_, ⟨m, M, y, rfl, ok, rfl⟩, _, _, rfl, rfl, rfl⟩
  | verb q x d v b p y =>
    walk_at "w"
    refine sd_setLc rfl nd (blk_of (own := [("_law_group", 4)]) sc_law_holds rfl rfl (by decide +kernel)) (i := 3) rfl (lcxM (pwi_list ?_))
    walk_at "w"
    refine ⟨_, ⟨m, M, x, rfl, ok, rfl⟩, _, rfl, Int, having M x, D.int, fun g => .bl (says M (.verb q x d v b p y) g), [4], rfl, by decide, ?_, ?_⟩
    · intro g hg _ _ _ _ _
      have hg2 := having_rg hg
      refine pwg_nm nd rfl (by walk_at "v") ?_
      intro _ _ _ _ _; walk_at "nf"
      walk_at "w"
      exact ⟨_, ⟨n, m, M, .verb q x d v b p y, g, rfl, ok, hs, rfl, hg2, rfl⟩, rfl⟩
    · cases q with
      | true =>
        walk_at "w"
        exact ⟨(having M x).map (says M (.verb true x d v b p y)), by rw [List.map_map]; rfl, rfl⟩
      | false =>
        walk_at "w"
        exact ⟨(having M x).map (says M (.verb false x d v b p y)), by rw [List.map_map]; rfl, rfl⟩
  | self q x d v =>
    walk_at "w"
    refine sd_setLc rfl nd (blk_of (own := [("_law_group", 4)]) sc_law_holds rfl rfl (by decide +kernel)) (i := 3) rfl (lcxM (pwi_list ?_))
    walk_at "w"
    refine ⟨_, ⟨m, M, x, rfl, ok, rfl⟩, _, rfl, Int, having M x, D.int, fun g => .bl (says M (.self q x d v) g), [4], rfl, by decide, ?_, ?_⟩
    · intro g hg _ _ _ _ _
      have hg2 := having_rg hg
      refine pwg_nm nd rfl (by walk_at "v") ?_
      intro _ _ _ _ _; walk_at "nf"
      walk_at "w"
      exact ⟨_, ⟨n, m, M, .self q x d v, g, rfl, ok, hs, rfl, hg2, rfl⟩, rfl⟩
    · cases q with
      | true =>
        walk_at "w"
        exact ⟨(having M x).map (says M (.self true x d v)), by rw [List.map_map]; rfl, rfl⟩
      | false =>
        walk_at "w"
        exact ⟨(having M x).map (says M (.self false x d v)), by rw [List.map_map]; rfl, rfl⟩
  | all x y =>
    walk_at "w"
    refine sd_setLc rfl nd (blk_of (own := [("_law_group", 4)]) sc_law_holds rfl rfl (by decide +kernel)) (i := 3) rfl (lcxM (pwi_list ?_))
    walk_at "w"
    refine ⟨_, ⟨m, M, x, rfl, ok, rfl⟩, _, rfl, Int, having M x, D.int, fun g => .bl (decide (y ∈ (grp M g).2)), [4], rfl, by decide, ?_, ?_⟩
    · intro g hg _ _ _ _ _
      obtain ⟨g, rfl, hgl⟩ := rg_nat (having_rg hg)
      refine pwg_nm nd rfl (by walk_at "v") ?_
      intro _ _ _ _ _; walk_at "nf"
      refine pw_inI ?_
      walk_at "w"
      refine ⟨_, _, _, rfl, rfl, grp_at hgl, ?_⟩
      walk_at "w"
    · have eM : (having M x).map (fun g => D.bl (decide (y ∈ (grp M g).2))) = ((having M x).map fun g => decide (y ∈ (grp M g).2)).map .bl := by rw [List.map_map]; rfl
      rw [eM]
      walk_at "w"
      refine pw_index ?_
      walk_at "w"
      refine ⟨["all", "some not", "no", "some"], rfl, ?_⟩
      walk_at "w"
      exact ⟨"all", 0, rfl, rfl, by decide, _, _, _, rfl, rfl, rfl, rfl⟩
  | snot x y =>
    walk_at "w"
    refine sd_setLc rfl nd (blk_of (own := [("_law_group", 4)]) sc_law_holds rfl rfl (by decide +kernel)) (i := 3) rfl (lcxM (pwi_list ?_))
    walk_at "w"
    refine ⟨_, ⟨m, M, x, rfl, ok, rfl⟩, _, rfl, Int, having M x, D.int, fun g => .bl (decide (y ∈ (grp M g).2)), [4], rfl, by decide, ?_, ?_⟩
    · intro g hg _ _ _ _ _
      obtain ⟨g, rfl, hgl⟩ := rg_nat (having_rg hg)
      refine pwg_nm nd rfl (by walk_at "v") ?_
      intro _ _ _ _ _; walk_at "nf"
      refine pw_inI ?_
      walk_at "w"
      refine ⟨_, _, _, rfl, rfl, grp_at hgl, ?_⟩
      walk_at "w"
    · have eM : (having M x).map (fun g => D.bl (decide (y ∈ (grp M g).2))) = ((having M x).map fun g => decide (y ∈ (grp M g).2)).map .bl := by rw [List.map_map]; rfl
      rw [eM]
      walk_at "w"
      refine pw_index ?_
      walk_at "w"
      refine ⟨["all", "some not", "no", "some"], rfl, ?_⟩
      walk_at "w"
      exact ⟨"some not", 1, rfl, rfl, by decide, _, _, _, rfl, rfl, rfl, rfl⟩
  | no x y =>
    walk_at "w"
    refine sd_setLc rfl nd (blk_of (own := [("_law_group", 4)]) sc_law_holds rfl rfl (by decide +kernel)) (i := 3) rfl (lcxM (pwi_list ?_))
    walk_at "w"
    refine ⟨_, ⟨m, M, x, rfl, ok, rfl⟩, _, rfl, Int, having M x, D.int, fun g => .bl (decide (y ∈ (grp M g).2)), [4], rfl, by decide, ?_, ?_⟩
    · intro g hg _ _ _ _ _
      obtain ⟨g, rfl, hgl⟩ := rg_nat (having_rg hg)
      refine pwg_nm nd rfl (by walk_at "v") ?_
      intro _ _ _ _ _; walk_at "nf"
      refine pw_inI ?_
      walk_at "w"
      refine ⟨_, _, _, rfl, rfl, grp_at hgl, ?_⟩
      walk_at "w"
    · have eM : (having M x).map (fun g => D.bl (decide (y ∈ (grp M g).2))) = ((having M x).map fun g => decide (y ∈ (grp M g).2)).map .bl := by rw [List.map_map]; rfl
      rw [eM]
      walk_at "w"
      refine pw_index ?_
      walk_at "w"
      refine ⟨["all", "some not", "no", "some"], rfl, ?_⟩
      walk_at "w"
      exact ⟨"no", 2, rfl, rfl, by decide, _, _, _, rfl, rfl, rfl, rfl⟩
  | some x y =>
    walk_at "w"
    refine sd_setLc rfl nd (blk_of (own := [("_law_group", 4)]) sc_law_holds rfl rfl (by decide +kernel)) (i := 3) rfl (lcxM (pwi_list ?_))
    walk_at "w"
    refine ⟨_, ⟨m, M, x, rfl, ok, rfl⟩, _, rfl, Int, having M x, D.int, fun g => .bl (decide (y ∈ (grp M g).2)), [4], rfl, by decide, ?_, ?_⟩
    · intro g hg _ _ _ _ _
      obtain ⟨g, rfl, hgl⟩ := rg_nat (having_rg hg)
      refine pwg_nm nd rfl (by walk_at "v") ?_
      intro _ _ _ _ _; walk_at "nf"
      refine pw_inI ?_
      walk_at "w"
      refine ⟨_, _, _, rfl, rfl, grp_at hgl, ?_⟩
      walk_at "w"
    · have eM : (having M x).map (fun g => D.bl (decide (y ∈ (grp M g).2))) = ((having M x).map fun g => decide (y ∈ (grp M g).2)).map .bl := by rw [List.map_map]; rfl
      rw [eM]
      walk_at "w"
      refine pw_index ?_
      walk_at "w"
      refine ⟨["all", "some not", "no", "some"], rfl, ?_⟩
      walk_at "w"
      exact ⟨"some", 3, rfl, rfl, by decide, _, _, _, rfl, rfl, rfl, rfl⟩
end
end AL
namespace AL
open PySem PySem.Spec PyProof.Rows L2 Mi
local macro_rules | `(tactic| walk_at "v") => `(tactic| first | exact Or.inl rfl | exact Or.inr rfl | exact Or.inr (Or.inl rfl) | exact Or.inr (Or.inr rfl))
local macro_rules | `(tactic| walk_at "we") => `(tactic| first
  | refine pw_nm rfl (by walk_at "v") rfl ?_
  | refine pw_int ?_
  | refine pw_str ?_
  | refine pw_bl ?_
  | (refine gEcmp ?_; walk_at "wc")
  | refine pw_ix ?_
  | (refine gEcall ?_; walk_at "wf")
  | refine pw_tup ?_
  | refine AL.pw_and ?_
  | refine AL.pw_or ?_
  | refine AL.pw_one ?_
  | refine AL.pw_not ?_
  | (refine gEbin ?_; walk_at "wb")
  | refine pw_slice ?_
  | refine pw_lst ?_
  | refine pw_ife ?_
  | refine pw_neg ?_
  | refine pw_non ?_
  | refine pw_gint rfl (Txt.c_MOST_NOUNS (by assumption)) ?_
  | refine pw_gint rfl (Txt.c_MOST_VERBS (by assumption)) ?_
  | refine pw_gint rfl (Txt.c_MOST_PREMISES (by assumption)) ?_
  | refine pw_gint rfl (Txt.c_MOST_SPEAKER (by assumption)) ?_
  | refine pw_gint rfl (Txt.c_MOST_ASSERTIONS (by assumption)) ?_
  | refine pw_gint rfl (Txt.c_MOST_COMMANDS (by assumption)) ?_
  )
local macro_rules | `(tactic| walk_at "wc") => `(tactic| first
  | refine pw_eqS (by assumption) ?_
  | refine pw_eq ?_
  | refine pw_ne ?_
  | refine pw_chainLe ?_
  | refine pw_lt ?_
  | refine pw_le ?_
  | refine pw_gt ?_
  | refine pw_ge ?_
  | refine pw_inG (Txt.c_TWO_NOUNS (by assumption)) rfl ?_
  | refine pw_inG (Txt.c_QUANTITIES (by assumption)) rfl ?_
  )
local macro_rules | `(tactic| walk_at "wf") => `(tactic| first
  | refine pw_len (Txt.b_len (by assumption)) ?_
  | refine pw_isi_int (Txt.b_isinstance (by assumption)) (Txt.b_int (by assumption)) ?_
  | refine pw_isi_bool (Txt.b_isinstance (by assumption)) (Txt.b_bool (by assumption)) ?_
  | refine pw_isi_str (Txt.b_isinstance (by assumption)) (Txt.b_str (by assumption)) ?_
  | refine pw_isi_tuple (Txt.b_isinstance (by assumption)) (Txt.b_tuple (by assumption)) ?_
  | refine pw_isi_list (Txt.b_isinstance (by assumption)) (Txt.b_list (by assumption)) ?_
  | refine pw_tuple (Txt.b_tuple (by assumption)) ?_
  | refine pw_any rfl (Txt.b_any (by assumption)) ?_
  | refine pw_all rfl (Txt.b_all (by assumption)) ?_
  | refine pw_sum rfl (Txt.b_sum (by assumption)) ?_
  | refine pw_min2 rfl (Txt.b_min (by assumption)) ?_
  | refine pw_max2 rfl (Txt.b_max (by assumption)) ?_
  | refine pw_toInt (Txt.b_int (by assumption)) ?_
  | refine pw_call (by assumption) (by assumption) (by decide) rfl ?_
  )
local macro_rules | `(tactic| walk_at "wb") => `(tactic| first
  | refine pw_add ?_
  | refine pw_sub ?_
  | refine pw_mul ?_
  | refine pw_fdiv ?_
  | refine pw_mod ?_
  )
local macro_rules | `(tactic| walk_at "wt") => `(tactic| first
  | (refine gTcmp ?_; walk_at "wd")
  | refine pwt_w ?_
  | refine pwt_not ?_
  | refine pwt_tru (fun _ => rfl) ?_
  )
local macro_rules | `(tactic| walk_at "wd") => `(tactic| first
  | refine pwt_eqS (by assumption) ?_
  | refine pwt_eq ?_
  | refine pwt_ne ?_
  | refine pwt_lt ?_
  | refine pwt_le ?_
  | refine pwt_gt ?_
  | refine pwt_ge ?_
  | refine pwt_inG (Txt.c_TWO_NOUNS (by assumption)) rfl ?_
  | refine pwt_inG (Txt.c_QUANTITIES (by assumption)) rfl ?_
  | refine pwt_inTup ?_
  | refine pwt_inLst ?_
  )
local macro_rules | `(tactic| walk_at "wl") => `(tactic| first
  | refine br_t rfl ?_
  | refine br_f rfl ?_
  | refine rb_t rfl ?_
  | refine rb_f rfl ?_
  | refine ⟨_, rfl, ?_⟩
  | refine ⟨_, _, rfl, rfl, ?_⟩
  | refine ⟨_, _, rfl, ?_⟩
  | refine ⟨rfl, ?_⟩
  | refine ⟨dp_ok _ rfl rfl, ?_⟩
  | refine ⟨_, _, _, rfl, rfl, rfl, ?_⟩
  | refine ⟨le_line (Nat.le_of_ble_eq_true rfl), ?_⟩
  | refine ⟨_, _, _, rfl, rfl, ?_⟩
  | exact rfl
  )
local macro_rules | `(tactic| walk_at "w1") => `(tactic| first
  | (refine gE ?_; walk_at "we")
  | (refine gT ?_; walk_at "wt")
  | (refine gA ?_; first | refine pwa_cons ?_ | refine pwa_nil ?_)
  | (refine gW ?_; first | refine pww_and ?_ | refine pww_or ?_ | refine pww_and1 ?_ | refine pww_or1 ?_)
  | (refine gS ?_; walk_at "nf"; first | refine sd_ret ?_ | refine sd_if ?_ | refine sd_newLN (by assumption) rfl (by walk_at "v") (Nat.le_of_ble_eq_true rfl) ?_ | refine sd_setN (by assumption) rfl (by walk_at "v") ?_ | refine sd_appendN rfl rfl (by walk_at "v") ?_ | refine sd_nil ?_)
  | (refine gP ?_; first | refine pwp_none ?_ | refine pwp_some ?_)
  | walk_at "wl"
  )
local macro_rules | `(tactic| walk_at "w") => `(tactic| repeat walk_at "w1")

section
variable {P : Program} {w : World} {K : PySem.W.Frag} {mg : Str → Option Value} {base : Heap}
def R_satisfies : List D → D → Prop := fun ds r => ∃ (n m : Nat) (M : Mi.Model) (ps : List Sen), ds = [modelD M, sensD ps] ∧ ModOk m M ∧ (∀ s ∈ ps, s.ok n m) ∧ r = .bl (ps.all (holds M))
local macro_rules | `(tactic| walk_at "nf") => `(tactic| first | refine nfS (δ' := [_, _, _]) rfl ?_ | refine nfE (δ' := [_, _, _]) rfl ?_ | refine nfT (δ' := [_, _, _]) rfl ?_ | refine nfTs (δ' := [_, _, _]) rfl ?_ | refine nfI (δ' := [_, _, _]) rfl ?_ | refine nfG (δ' := [_, _, _]) rfl ?_ | refine nfX (δ' := [_, _, _]) rfl ?_ | refine nfXO (δ' := [_, _, _]) rfl ?_)
theorem fn_satisfies (T : Txt K mg) : FnP P w K mg base "_law_satisfies" 5 R_satisfies := by
  have F1 : FnP P w K mg base "_law_holds" 4 R_holds := fn_holds T
  refine fn_pure T.d_law_satisfies sc_law_satisfies (fun _ _ _ _ _ _ us hl => match us, hl with | [_, _], _ => rfl) (fun ds r ⟨_, _, _, _, h, _⟩ => by rw [h]; rfl) ?_
  rintro ds r ⟨n, m, M, ps, rfl, ok, hs, rfl⟩ f cdv A outer s0 H E hr
  have nd := sc_law_satisfies.nd
  walk_at "w"
  refine pw_lcM (own := [("_law_sentence_here", 2)]) rfl nd (blk_of sc_law_satisfies rfl rfl (by decide +kernel)) (pwi_tup ?_)
  walk_at "w"
  refine ⟨Sen, ps, senD, fun s => .bl (holds M s), [2], rfl, by decide, ?_, ?_⟩
  · intro s hx _ _ _ _ _
    refine pwg_nm nd rfl (by walk_at "v") ?_
    intro _ _ _ _ _; walk_at "nf"
    walk_at "w"
    exact ⟨_, ⟨n, m, M, s, rfl, ok, hs s hx, rfl⟩, rfl⟩
  · walk_at "w"
    exact ⟨ps.map (holds M), by rw [List.map_map]; rfl, by rw [List.all_map]; rfl⟩
end
end AL
namespace AL
open PySem PySem.Spec PyProof.Rows L2 Mi
local macro_rules | `(tactic| walk_at "v") => `(tactic| first | exact Or.inl rfl | exact Or.inr rfl | exact Or.inr (Or.inl rfl) | exact Or.inr (Or.inr rfl))
local macro_rules | `(tactic| walk_at "we") => `(tactic| first
  | refine pw_nm rfl (by walk_at "v") rfl ?_
  | refine pw_int ?_
  | refine pw_str ?_
  | refine pw_bl ?_
  | (refine gEcmp ?_; walk_at "wc")
  | refine pw_ix ?_
  | (refine gEcall ?_; walk_at "wf")
  | refine pw_tup ?_
  | refine AL.pw_and ?_
  | refine AL.pw_or ?_
  | refine AL.pw_one ?_
  | refine AL.pw_not ?_
  | (refine gEbin ?_; walk_at "wb")
  | refine pw_slice ?_
  | refine pw_lst ?_
  | refine pw_ife ?_
  | refine pw_neg ?_
  | refine pw_non ?_
  | refine pw_gint rfl (Txt.c_MOST_NOUNS (by assumption)) ?_
  | refine pw_gint rfl (Txt.c_MOST_VERBS (by assumption)) ?_
  | refine pw_gint rfl (Txt.c_MOST_PREMISES (by assumption)) ?_
  | refine pw_gint rfl (Txt.c_MOST_SPEAKER (by assumption)) ?_
  | refine pw_gint rfl (Txt.c_MOST_ASSERTIONS (by assumption)) ?_
  | refine pw_gint rfl (Txt.c_MOST_COMMANDS (by assumption)) ?_
  )
local macro_rules | `(tactic| walk_at "wc") => `(tactic| first
  | refine pw_eqS (by assumption) ?_
  | refine pw_eq ?_
  | refine pw_ne ?_
  | refine pw_chainLe ?_
  | refine pw_lt ?_
  | refine pw_le ?_
  | refine pw_gt ?_
  | refine pw_ge ?_
  | refine pw_inG (Txt.c_TWO_NOUNS (by assumption)) rfl ?_
  | refine pw_inG (Txt.c_QUANTITIES (by assumption)) rfl ?_
  )
local macro_rules | `(tactic| walk_at "wf") => `(tactic| first
  | refine pw_len (Txt.b_len (by assumption)) ?_
  | refine pw_isi_int (Txt.b_isinstance (by assumption)) (Txt.b_int (by assumption)) ?_
  | refine pw_isi_bool (Txt.b_isinstance (by assumption)) (Txt.b_bool (by assumption)) ?_
  | refine pw_isi_str (Txt.b_isinstance (by assumption)) (Txt.b_str (by assumption)) ?_
  | refine pw_isi_tuple (Txt.b_isinstance (by assumption)) (Txt.b_tuple (by assumption)) ?_
  | refine pw_isi_list (Txt.b_isinstance (by assumption)) (Txt.b_list (by assumption)) ?_
  | refine pw_tuple (Txt.b_tuple (by assumption)) ?_
  | refine pw_any rfl (Txt.b_any (by assumption)) ?_
  | refine pw_all rfl (Txt.b_all (by assumption)) ?_
  | refine pw_sum rfl (Txt.b_sum (by assumption)) ?_
  | refine pw_min2 rfl (Txt.b_min (by assumption)) ?_
  | refine pw_max2 rfl (Txt.b_max (by assumption)) ?_
  | refine pw_toInt (Txt.b_int (by assumption)) ?_
  | refine pw_call (by assumption) (by assumption) (by decide) rfl ?_
  )
local macro_rules | `(tactic| walk_at "wb") => `(tactic| first
  | refine pw_add ?_
  | refine pw_sub ?_
  | refine pw_mul ?_
  | refine pw_fdiv ?_
  | refine pw_mod ?_
  )
local macro_rules | `(tactic| walk_at "wt") => `(tactic| first
  | (refine gTcmp ?_; walk_at "wd")
  | refine pwt_w ?_
  | refine pwt_not ?_
  | refine pwt_tru (fun _ => rfl) ?_
  )
local macro_rules | `(tactic| walk_at "wd") => `(tactic| first
  | refine pwt_eqS (by assumption) ?_
  | refine pwt_eq ?_
  | refine pwt_ne ?_
  | refine pwt_lt ?_
  | refine pwt_le ?_
  | refine pwt_gt ?_
  | refine pwt_ge ?_
  | refine pwt_inG (Txt.c_TWO_NOUNS (by assumption)) rfl ?_
  | refine pwt_inG (Txt.c_QUANTITIES (by assumption)) rfl ?_
  | refine pwt_inTup ?_
  | refine pwt_inLst ?_
  )
local macro_rules | `(tactic| walk_at "wl") => `(tactic| first
  | refine br_t rfl ?_
  | refine br_f rfl ?_
  | refine rb_t rfl ?_
  | refine rb_f rfl ?_
  | refine ⟨_, rfl, ?_⟩
  | refine ⟨_, _, rfl, rfl, ?_⟩
  | refine ⟨_, _, rfl, ?_⟩
  | refine ⟨rfl, ?_⟩
  | refine ⟨dp_ok _ rfl rfl, ?_⟩
  | refine ⟨_, _, _, rfl, rfl, rfl, ?_⟩
  | refine ⟨le_line (Nat.le_of_ble_eq_true rfl), ?_⟩
  | refine ⟨_, _, _, rfl, rfl, ?_⟩
  | exact rfl
  )
local macro_rules | `(tactic| walk_at "w1") => `(tactic| first
  | (refine gE ?_; walk_at "we")
  | (refine gT ?_; walk_at "wt")
  | (refine gA ?_; first | refine pwa_cons ?_ | refine pwa_nil ?_)
  | (refine gW ?_; first | refine pww_and ?_ | refine pww_or ?_ | refine pww_and1 ?_ | refine pww_or1 ?_)
  | (refine gS ?_; walk_at "nf"; first | refine sd_ret ?_ | refine sd_if ?_ | refine sd_newLN (by assumption) rfl (by walk_at "v") (Nat.le_of_ble_eq_true rfl) ?_ | refine sd_setN (by assumption) rfl (by walk_at "v") ?_ | refine sd_appendN rfl rfl (by walk_at "v") ?_ | refine sd_nil ?_)
  | (refine gP ?_; first | refine pwp_none ?_ | refine pwp_some ?_)
  | walk_at "wl"
  )
local macro_rules | `(tactic| walk_at "w") => `(tactic| repeat walk_at "w1")

section
variable {P : Program} {w : World} {K : PySem.W.Frag} {mg : Str → Option Value} {base : Heap}
local macro_rules | `(tactic| walk_at "wb") => `(tactic| first | refine pw_catT (pw_call (by assumption) (by assumption) (by decide) rfl ?_))
def whyNot (n m : Nat) (l : List Asr) : Cmd → Str
  | .wd i => if l.length ≤ i then "missing" else ""
  | .assert sp x => if 8 ≤ l.length then "many" else if (conflictsOf n m (saidBy l sp ++ [x])).isEmpty then "" else "self"
def AsrOk (n m : Nat) (l : List Asr) : Prop := l.length ≤ 8 ∧ ∀ a ∈ l, (0 ≤ a.1 ∧ a.1 ≤ 5) ∧ a.2.ok n m
theorem saidBy_ok {n m : Nat} {l : List Asr} (h : AsrOk n m l) {sp : Int} : ∀ s ∈ saidBy l sp, s.ok n m := fun s hs => by
  obtain ⟨a, ha, e⟩ := List.mem_filterMap.mp hs
  by_cases c : a.1 = sp
  · rw [if_pos c] at e
    cases e
    exact (h.2 a ha).2
  · rw [if_neg c] at e
    cases e
theorem said_prem {n m : Nat} {l : List Asr} (hs : SigOk n m) (h : AsrOk n m l) (sp : Int) : Prem n m (saidBy l sp) := ⟨hs, Nat.le_trans (saidBy_len l sp) h.1, saidBy_ok h⟩
theorem saidX_prem {n m : Nat} {l : List Asr} (hs : SigOk n m) (h : AsrOk n m l) (h8 : l.length < 8) (sp : Int) {x : Sen} (hx : x.ok n m) : Prem n m (saidBy l sp ++ [x]) := by
  refine ⟨hs, ?_, fun s hm => ?_⟩
  · have := saidBy_len l sp
    rw [List.length_append, List.length_singleton]
    omega
  · rcases List.mem_append.mp hm with h1 | h1
    · exact saidBy_ok h s h1
    · rw [List.mem_singleton.mp h1]; exact hx
def R_why_not : List D → D → Prop := fun ds r => ∃ (n m : Nat) (l : List Asr) (c : Cmd), ds = [sigD n m, asrsD l, cmdD c] ∧ SigOk n m ∧ AsrOk n m l ∧ c.ok n m ∧ r = .str (whyNot n m l c)
local macro_rules | `(tactic| walk_at "nf") => `(tactic| first | refine nfS (δ' := [_, _, _, _]) rfl ?_ | refine nfE (δ' := [_, _, _, _]) rfl ?_ | refine nfT (δ' := [_, _, _, _]) rfl ?_ | refine nfTs (δ' := [_, _, _, _]) rfl ?_ | refine nfI (δ' := [_, _, _, _]) rfl ?_ | refine nfG (δ' := [_, _, _, _]) rfl ?_ | refine nfX (δ' := [_, _, _, _]) rfl ?_ | refine nfXO (δ' := [_, _, _, _]) rfl ?_)
theorem fn_why_not (T : Txt K mg) : FnP P w K mg base "_law_why_not" 10 R_why_not := by
  have F1 : FnP P w K mg base "_law_said" 1 R_said_by := fn_law_said T
  have F2 : FnP P w K mg base "can_hold" 9 R_can_hold := fn_can_hold T
  refine fn_pure T.d_law_why_not sc_law_why_not (fun _ _ _ _ _ _ us hl => match us, hl with | [_, _, _], _ => rfl) (fun ds r ⟨_, _, _, _, h, _⟩ => by rw [h]; rfl) ?_
  rintro ds r ⟨n, m, l, c, rfl, hs, hl, hc, rfl⟩ f cdv A outer s0 H E hr
  have nd := sc_law_why_not.nd
  cases c with
  | wd i =>
    walk_at "w"
    rw [List.length_map]
    by_cases h : l.length ≤ i
    · refine ⟨_, 1, .str "missing", rfl, ?_, rfl, ?_⟩
      · rw [if_pos (decide_eq_true (by omega))]
      · exact congrArg D.str (if_pos h).symm
    · refine ⟨_, 0, .str "", rfl, ?_, rfl, ?_⟩
      · rw [if_neg (by rw [decide_eq_false (by omega)]; exact Bool.false_ne_true)]
      · exact congrArg D.str (if_neg h).symm
  | assert sp x =>
    walk_at "w"
    rw [List.length_map]
    refine ⟨fun h => ?_, fun h => sd_nil ?_⟩
    · have h8 : 8 ≤ l.length := by have := of_decide_eq_true h; omega
      walk_at "w"
      exact congrArg D.str (if_pos h8).symm
    · have h8 : ¬ 8 ≤ l.length := by have := of_decide_eq_false h; omega
      walk_at "w"
      refine ⟨_, ⟨l, sp, rfl, hl.1, rfl⟩, ?_⟩
      walk_at "w"
      have pr := saidX_prem hs hl (by omega) sp hc.2.2
      refine ⟨le_line (by have := saidBy_len l sp; have := hl.1; rw [List.length_map, List.length_singleton]; omega), ?_⟩
      have e1 : D.tup ((saidBy l sp).map senD ++ [senD x]) = sensD (saidBy l sp ++ [x]) := by unfold sensD; rw [List.map_append]; rfl
      rw [e1]
      walk_at "w"
      refine ⟨_, ⟨n, m, _, rfl, pr, rfl⟩, ?_⟩
      have eW : whyNot n m l (.assert sp x) = if (conflictsOf n m (saidBy l sp ++ [x])).isEmpty then ("" : Str) else ("self" : Str) := if_neg h8
      rw [eW]
      cases (conflictsOf n m (saidBy l sp ++ [x])).isEmpty with
      | true =>
        walk_at "w"
      | false =>
        walk_at "w"
end
end AL
namespace PySem
namespace LowX
open PySem.W PySem.Calls PyProof.Rows PySem.HandSPX
def iA (p1 p2 : Pos) : Arguments := { posonlyargs := [], args := [{ arg := "self", annotation := none, pos := p1 }, { arg := "why", annotation := none, pos := p2 }], vararg := none, kwonlyargs := [], kw_defaults := [], kwarg := none, defaults := [] }
def iB (q1 q2 q3 q4 : Pos) : List Stmt := [.Assign [.Attribute (.Name "self" q1) "why" q2] (.Name "why" q3) q4]
def iS : Scope := { kind := .function, names := [(PySem.Str.ofString "self", .local), (PySem.Str.ofString "why", .local)], isGenerator := false, isCoroutine := false, more := [] }
/-- what the written part says of Low, at C, and of its __init__, at fI -/
structure LowTxt (K : Frag) (mg : Str → Option Value) (C fI : Addr) : Prop where
  gC : mg "NotPossible" = some (.ref C)
  cls : ∃ nm q N bs bm sn sub ab col dd k0 k1 k2 k3 k5, K.lookup C = some (excClassObj nm q C N bs bm true sn sub ab col dd k0 k1 k2 k3 k5 "ValueError.__new__") ∧ refsVE bm = true
  sa : findIn K (.ref C) "__setattr__" = some (some (.builtin "object.__setattr__"))
  ga : findIn K (.ref C) "__getattribute__" = some (some (.builtin "BaseException.__getattribute__"))
  gg : findIn K (.ref C) "__getattr__" = some none
  noN : findIn K (.ref C) "why" = some none
  iC : findIn K (.ref C) "__init__" = some (some (.ref fI))
  tC : typeIn K (.ref fI) = some (.type "function")
  kC : keepIn K (.ref C) = true
  exC : subIn K (.ref C) (.type "BaseException") = some true
  tyC : typeIn K (.ref C) = some (.type "type")
  hdC : hasDictIn K C = true
  te : exmOne K (.ref C) (.ref C) = some true
  fn : ∃ (oc : Value) (od : Option Addr) (doc pm : Value) (an : Option Addr) (cdv ct : Value) (osl : Array (Option Value)) (p1 p2 q1 q2 q3 q4 : Pos),
    K.lookup fI = some ⟨oc, od, .func (fnOf "__init__" "NotPossible.__init__" (iA p1 p2) (iB q1 q2 q3 q4) iS .none .none doc pm an cdv ct), osl⟩ ∧ codeIn K cdv "NotPossible.__init__" = true
theorem one_size (v : Value) : [v].length ≤ sizeLine := by
  rw [sizeLine_eq]
  exact (by decide : 1 ≤ 16777216)
theorem kept_but {K : Frag} {h h' : Heap} {x : Addr} (X : K.In h) (hx : K.lookup x = none) (k : ∀ b o, b ≠ x → h.get? b = some o → h'.get? b = some o) : K.In h' := fun a o e =>
  k a o (fun z => by rw [z, hx] at e; cases e) (X a o e)
theorem ldC {M : Model} {s : Shared} {name : Str} {scope : Scope} {L a : Addr} {cd : Value} {m : Str → Option Value} {x : Str} {pos : Pos} {v : Value} {Q : Value → Shared → Prop} {A : Around} {E : Value → Shared → Prop} (hn : s.heap.Ns L m) (hv : m x = some v) (h : Q v s)
    (hk : scope.kind = .function := by rfl) (hl : (envOfC name scope L a cd).kindOf x = some .local := by rfl) (hd : (x == ("__debug__" : Str)) = false := by decide) :
    wpAny M A (eval (.Name x pos) (envOfC name scope L a cd)) Q E s := wpAny_Name (wpAny_loadName_local hk hl hn hv h) hd
/-- what __init__ leaves of a fresh exception at x -/
structure InitEnd (h h' : Heap) (x C dx t1 : Addr) (v : Value) : Prop where
  keep : ∀ b o, b ≠ x → h.get? b = some o → h'.get? b = some o
  obj : h'.get? x = some { cls := .ref C, dict := some dx, data := .fields #[.ref t1, .none, .none, .none, .bool false, .none] }
  dbig : h.objs.size ≤ dx
  dne : dx ≠ x
  ns : h'.Ns1 dx (fun y => if y = "why" then some v else none)
/-- a made Low -/
structure OwnMade (h h' : Heap) (e C d : Addr) (v : Value) : Prop where
  keep : ∀ b o, h.get? b = some o → h'.get? b = some o
  new : h.objs.size ≤ e
  obj : ∃ oe vs, h'.get? e = some oe ∧ oe.cls = .ref C ∧ oe.dict = some d ∧ oe.data = .fields vs ∧ vs[1]? = some .none
  dbig : h.objs.size ≤ d
  dne : d ≠ e
  ns : h'.Ns1 d (fun y => if y = "why" then some v else none)
section
variable {prog : Program} {w : World} {A : Around} {E : Value → Shared → Prop} {R : Result → Shared → Prop} {s : Shared} {K : Frag} {mg : Str → Option Value} {C fI : Addr}
theorem low_init (T : LowTxt K mg C fI) {x t0 : Addr} {v : Value} (X : K.In s.heap) (hlim : s.heap.NoLimit) (hx : s.heap.get? x = some (excO C t0)) (hnx : K.lookup x = none) (hroom : A.depth < recursionLimit)
    (hq : ∀ h' tk dx, InitEnd s.heap h' x C dx t0 v → R (.ok (.ret .none)) { s with heap := h', toks := tk }) :
    codeAny (model prog w) A (.call (.ref fI) ⟨[.ref x, v], []⟩) R s := by
  obtain ⟨oc, od, doc, pm, an, cdv, ct, osl, p1, p2, q1, q2, q3, q4, ho, hcd⟩ := T.fn
  obtain ⟨nm, q, N, bs, bm, sn, sub, ab, col, dd, k0, k1, k2, k3, k5, hC, hbm⟩ := T.cls
  have hcl : clsIn K C = some { name := nm, bases := bs, mro := .ref C :: bm, ns := N, qualname := q, hasDict := true, slotNames := sn, subclasses := sub, abstract := ab, collection := col, hasDel := false } := by unfold clsIn; rw [hC] <;> rfl
  refine Att.call_fn (binds := [("self", .ref x), ("why", v)]) X hlim ho hcd hroom (BindsTo.of_eq (by first | rfl | with_unfolding_all rfl)) (by first | rfl | decide | with_unfolding_all rfl) (fun s₁ IC => ?_) rfl rfl rfl
  obtain ⟨h₁, tk₁, rfl⟩ := IC.toInCall.same
  have k : ∀ b o, s.heap.get? b = some o → h₁.get? b = some o := IC.toInCall.keep
  have hn := IC.toInCall.ns
  have hxL : s.heap.objs.size ≠ x := Nat.ne_of_gt (Heap.lt_size hx)
  have X₁ : K.In h₁ := X.keeps k
  have hx₁ := k _ _ hx
  -- self.by = by
  show wpAny _ _ (execs _ _) _ _ _
  refine wpAny_execs_cons (plainObj_wpAny_Assign_Attribute ?_)
  refine ldC (v := v) hn (by first | rfl | with_unfolding_all rfl | kernel_rfl) (ldC (v := .ref x) hn (by first | rfl | with_unfolding_all rfl | kernel_rfl) ?_)
  refine set_plain X₁ (ox := excO C t0) (od := none) ⟨hx₁, rfl, rfl, trivial⟩ T.sa ?_
  refine exc_osa X₁ hx₁ hcl (show refsVE (.ref C :: bm) = true from hbm) rfl T.noN (fun h₃ tk₃ dx k₃ dn dne hx₃ hn₃ => ?_)
  show wpAny _ _ (execs _ _) _ _ _
  have z : s.heap.objs.size < h₁.objs.size := hn.lt
  exact wpAny_execs_nil (hq h₃ tk₃ dx ⟨fun b o hb e => k₃ b o hb (k b o e), hx₃, Nat.le_of_lt (Nat.lt_of_lt_of_le z dn), dne, hn₃⟩)
theorem low_made (T : LowTxt K mg C fI) {v : Value} (X : K.In s.heap) (hlim : s.heap.NoLimit) (hroom : A.depth + 1 < recursionLimit)
    (hq : ∀ h' tk e d, OwnMade s.heap h' e C d v → R (.ok (.ret (.ref e))) { s with heap := h', toks := tk }) :
    codeAny (model prog w) A (.call (.ref C) ⟨[v], []⟩) R s := by
  obtain ⟨nm, q, N, bs, bm, sn, sub, ab, col, dd, k0, k1, k2, k3, k5, hC, hbm⟩ := T.cls
  obtain ⟨hp, g, dr, tk, os⟩ := s
  have k : ∀ b o, hp.get? b = some o → ((hp.push (kdv_tup [v])).push (excO C hp.objs.size)).get? b = some o := fun b o e => Heap.get?_push_of_some _ (Heap.get?_push_of_some _ e)
  have hget : ((hp.push (kdv_tup [v])).push (excO C hp.objs.size)).get? (hp.objs.size + 1) = some (excO C hp.objs.size) := by heap_get
  have hnx : K.lookup (hp.objs.size + 1) = none := by
    cases e : K.lookup (hp.objs.size + 1) with
    | none => rfl
    | some o =>
      have z : hp.get? (hp.objs.size + 1) = some o := X _ _ e
      exact absurd (Nat.lt_of_succ_lt (Heap.lt_size z)) (Nat.lt_irrefl _)
  refine call_own F.excBase_ValueError (fun X => refsVE_contains X bm hbm) (X _ _ hC) (looks_findIn X T.iC) (fun self => bind_fn X self T.tC) (one_size v) ?_
  refine low_init (s := ⟨(hp.push (kdv_tup [v])).push (excO C hp.objs.size), g, dr, tk, os⟩) T (X.keeps k) (hlim.keeps k) hget hnx ?_ fun h' tk' dx ⟨k', hx, dn, dne, hns⟩ => ?_
  · show A.depth + 1 < recursionLimit
    exact hroom
  · have old : ∀ b o, hp.get? b = some o → h'.get? b = some o := fun b o e => k' b o (Nat.ne_of_lt (Nat.lt_succ_of_lt (Heap.lt_size e))) (k b o e)
    have z : hp.objs.size + 1 + 1 ≤ dx := by
      first
        | (simpa only [Heap.size_push] using dn)
        | exact dn
        | (have q := dn; rw [Heap.size_push, Heap.size_push] at q; exact q)
    exact ⟨rfl, hq h' tk' (hp.objs.size + 1) dx ⟨old, Nat.le_succ _, ⟨_, _, hx, rfl, rfl, rfl, rfl⟩, Nat.le_trans (Nat.le_trans (Nat.le_succ _) (Nat.le_succ _)) z, dne, hns⟩⟩
end
end LowX
end PySem
namespace L2
open PySem PySem.Spec PyProof.Rows
theorem relO_low {v : V} {v' : Value} (r : RelV v v') (f : Str) : RelO (List.lookup f [(("why" : Str), v)]) (if f = "why" then some v' else none) := by
  by_cases hw : f = "why"
  · subst hw
    rw [if_pos rfl]
    have q : List.lookup ("why" : Str) [(("why" : Str), v)] = some v := by simp [List.lookup]
    rw [q]
    exact r
  · rw [if_neg hw]
    have qw : (f == ("why" : Str)) = false := by simpa using hw
    have q2 : List.lookup f [(("why" : Str), v)] = none := by simp [List.lookup, qw]
    rw [q2]
    trivial
section
variable {X : Cx} {C fI : Addr}
/-- Low(e) -/
def tMkLow (C : Addr) (ta : TA) : St → Hp → XK → Prop := fun σ H Q => ta σ H fun vs H1 => ∃ v, vs = [v] ∧ ∀ d, H1 d = none → Q (.ref C) (some d) (upd H1 d (.xd [(("why" : Str), v)]))
theorem pmk_low {a : Expr} {ta : TA} {p pos : Pos} {k : Nat} (T : PySem.LowX.LowTxt X.K X.mg C fI) (hr : Room k X.A) (ha : PA X [a] ta) (hg : Gl X "NotPossible" := by rfl)
    (he : starEach (a :: []) X.env = (false, eval a X.env) :: starEach [] X.env := by rfl) (hpl : (backTo pos (starEach [] X.env)).any (·.1) = false := by rfl) :
    PMk X (.Call (.Name "NotPossible" p) [a] [] pos) (tMkLow C ta) := by
  intro pins s σ H Q I h
  refine wpAny_Call_Name_kw (ld_glob I hg T.gC ?_)
  refine PySem.W.callWith_K (h₀ := X.base) I.ok.mod.kin T.kC (thn (ha.run pos pins s σ H _ I h) fun us s1 hh => ?_) he hpl
  obtain ⟨vs, H1, I1, r1, v, ev, q1⟩ := hh
  subst ev
  refine ⟨I1.kIn, ?_⟩
  cases r1 with
  | cons rv rn =>
    rename_i v' us'
    cases rn
    show wpAny _ _ (call (.ref C) [v']) _ _ _
    have hlim := I1.nolimit
    obtain ⟨hp, g, dr, tk, os⟩ := s1
    refine wpAny_call (PySem.LowX.low_made T I1.kIn hlim (by have := hr.dp; omega) fun h' tk' e d M => ?_)
    show MkP X pins σ Q (.ref e) ⟨h', g, dr, tk', os⟩
    obtain ⟨oe, fv, hoe, hc, hd, hdat, h1⟩ := M.obj
    have hns := M.ns
    obtain ⟨G', g1, g2⟩ := restrict h' fun b => decide (b ≠ e)
    have gk : ∀ b, b ≠ e → G'.get? b = h'.get? b := fun b hb => g1 b (decide_eq_true hb)
    have ge : G'.get? e = none := g2 e (by simp)
    have old : ∀ b o, hp.get? b = some o → G'.get? b = some o := fun b o q => (gk b (Nat.ne_of_lt (Nat.lt_of_lt_of_le (Heap.lt_size q) M.new))).trans (M.keep b o q)
    have ob : ObjOk X.prog X.w (upd H1 d (.xd [(("why" : Str), v)])) G' d (.xd [(("why" : Str), v)]) :=
      ⟨_, hns.at (fun o q => (gk d M.dne).trans q), fun f => relO_low rv f⟩
    have J : Inv X pins σ (upd H1 d (.xd [(("why" : Str), v)])) ⟨G', g, dr, tk', os⟩ := I1.laid (t' := tk') old M.dbig ob
    refine ⟨e, oe, fv, ⟨G', g, dr, tk', os⟩, _, .ref C, some d, rfl, J, fun b o q => ?_, ge, hoe, ⟨hc, hd⟩, hdat, h1, ?_, rfl, I1.bare, raises_own T.exC T.tyC, q1 d (I1.hok.fresh M.dbig)⟩
    · by_cases hb : b = e
      · have q' : G'.get? b = some o := q
        rw [hb, ge] at q'; cases q'
      · exact (gk b hb).symm.trans q
    · rw [upd_ne (Ne.symm M.dne)]
      exact I1.hok.fresh M.new
/-- raise Low(e) -/
def tRaiseLow (C : Addr) (W : WX) (ta : TA) : TS := fun _ σ H => tMkLow C ta σ H fun cls d H' => W cls d σ H'
theorem ps_raiseLow {a : Expr} {ta : TA} {W : WX} {p pos pos2 : Pos} {k : Nat} (hc : X.calm = true) (T : PySem.LowX.LowTxt X.K X.mg C fI) (hr : Room k X.A) (tk : Takes X W) (ha : PA X [a] ta) (hg : Gl X "NotPossible" := by rfl)
    (he : starEach (a :: []) X.env = (false, eval a X.env) :: starEach [] X.env := by rfl) (hpl : (backTo pos (starEach [] X.env)).any (·.1) = false := by rfl) :
    PS X (.Raise (some (.Call (.Name "NotPossible" p) [a] [] pos)) none pos2) (tRaiseLow C W ta) := ps_raise hc tk (pmk_low T hr ha hg he hpl)
/-- low.by, low the exception that the suite holds (at a; its class cls, its dict d) -/
def tByLow (C : Addr) (a : Addr) (cls : Value) (d : Option Addr) (te : TE) : TE := fun σ H Q => te σ H fun x H1 => x = .ref a ∧ cls = .ref C ∧ ∃ (dd : Addr) (v : V), d = some dd ∧ H1 dd = some (.xd [(("why" : Str), v)]) ∧ Q v H1
theorem pe_byLow {a : Addr} {oe : Obj} {cls : Value} {d : Option Addr} {pn : List (Addr × Obj)} {e : Expr} {te : TE} {pos : Pos} (T : PySem.LowX.LowTxt X.K X.mg C fI) (hz : Zc cls d oe) (hf : ∃ vs, oe.data = .fields vs) (he : PE (X.suite a ((a, oe) :: pn)) e te)
    (hb : attributeBase e "why" X.env (eval e X.env) = eval e X.env := by rfl) :
    PE (X.suite a ((a, oe) :: pn)) (.Attribute e "why" pos) (tByLow C a cls d te) := by
  refine ⟨fun pins s σ H Q I h => ?_⟩
  refine attr_of hb (thn (he.run pins s σ H _ I h) fun u s1 hh => ?_)
  obtain ⟨x, H1, I1, rx, ex, ec, dd, v, ed, ea, q⟩ := hh
  subst ex
  obtain rfl : u = Value.ref a := rx
  subst ec
  subst ed
  obtain ⟨ha, _⟩ := I1.pin (a, oe) (List.mem_append_left _ List.mem_cons_self)
  obtain ⟨vs, hd⟩ := hf
  have hx : ObjOk X.prog X.w H1 s1.heap dd (.xd [(("why" : Str), v)]) := I1.hok dd _ ea
  obtain ⟨mA, hns, hr⟩ := hx
  obtain ⟨od, ho, hl⟩ := lookIn_ns hns
  have l : List.lookup ("why" : Str) [(("why" : Str), v)] = some v := by simp [List.lookup]
  obtain ⟨u, hu, ru⟩ := RelO.some_of (v := v) (o := mA "why") (by rw [← l]; exact hr "why")
  have J : PySem.W.InstAt s1.heap a oe C (some od) := ⟨ha, hz.1, by unfold PySem.W.notCls; rw [hd] <;> rfl, by rw [hz.2]; exact ho⟩
  exact HandSPX.exc_get I1.kIn J T.ga T.gg T.exC (PySem.W.findObj_own T.hdC T.noN rfl (by rw [hl, hu])) (handed_of ru) ⟨v, H1, I1.tok _, ru, q⟩
end
end L2
namespace AL
open PySem PySem.Spec PyProof.Rows L2

/-- the heap behind a raise -/
abbrev xdW (s : Str) : HO := .xd [(("why" : Str), V.str s)]
structure SdX (X : Cx) (C : Addr) (W : WX) (st : List Stmt) (δ : List Cell) (N : List Cell → Prop) (R : D → List Cell → Prop) (Z : Str → List Cell → Prop) : Prop where
  run : ∀ (G0 H0 G H : Hp) (σ : St), Okb G0 H0 G H σ δ → ∀ E : Ends, (∀ G' H' σ' δ', Okb G0 H0 G' H' σ' δ' → N δ' → E.nx σ' H') →
    (∀ v d G' H' σ' δ', Okb G0 H0 G' H' σ' δ' → DT G' v d → R d δ' → E.rt v H') →
    (∀ s d G' H' σ' δ', Okb G0 H0 G' H' σ' δ' → Z s δ' → H' d = some (xdW s) → W (.ref C) (some d) σ' H') → sSs X st E σ H
section
variable {X : Cx} {C fI : Addr} {W : WX} {e a b c tg iter : Expr} {es : List Expr} {st : Stmt} {rest body : List Stmt} {δ : List Cell} {N : List Cell → Prop} {R : D → List Cell → Prop} {Z : Str → List Cell → Prop} {pos p p2 pos2 : Pos} {x : Str}
theorem sdx_of (h : Sd X rest δ N R) : SdX X C W rest δ N R Z := ⟨fun G0 H0 G H σ o E f g _ => h.run G0 H0 G H σ o E f g⟩
theorem sdx_step {t : TS} (h : PS X st t) (hd : ∀ (G0 H0 G H : Hp) (σ : St), Okb G0 H0 G H σ δ → ∀ E : Ends, (∀ G' H' σ' δ', Okb G0 H0 G' H' σ' δ' → SdX X C W rest δ' N R Z → E.nx σ' H') →
    (∀ v d G' H' σ' δ', Okb G0 H0 G' H' σ' δ' → DT G' v d → R d δ' → E.rt v H') →
    (∀ s d G' H' σ' δ', Okb G0 H0 G' H' σ' δ' → Z s δ' → H' d = some (xdW s) → W (.ref C) (some d) σ' H') → t E σ H) : SdX X C W (st :: rest) δ N R Z :=
  ⟨fun G0 H0 G H σ o E f g z => sSs_of (pss_cons h pss_s) (hd G0 H0 G H σ o { E with nx := sSs X rest E } (fun G' H' σ' δ' o' h' => h'.run G0 H0 G' H' σ' o' E f g z) g z)⟩
theorem sdx_nil (q : N δ) : SdX X C W [] δ N R Z := sdx_of (sd_nil q)
theorem sdx_if {ta tb : List Stmt} (hc : PwT X c δ fun t => (t = true → SdX X C W ta δ (fun δ' => SdX X C W rest δ' N R Z) R Z) ∧ (t = false → SdX X C W tb δ (fun δ' => SdX X C W rest δ' N R Z) R Z)) : SdX X C W (.If c ta tb pos :: rest) δ N R Z :=
  sdx_step (ps_if pt_s pss_s pss_s) fun G0 H0 G H σ o E f g z => hc.run G H σ o.ok _ fun t G' H' g' ⟨h1, h2⟩ => by
    cases t with
    | true => exact (h1 rfl).run G0 H0 G' H' σ (o.grow g') E f g z
    | false => exact (h2 rfl).run G0 H0 G' H' σ (o.grow g') E f g z
/-- raise NotPossible(e) -/
theorem sdx_raise {k : Nat} (hc : X.calm = true) (T : PySem.LowX.LowTxt X.K X.mg C fI) (hr : Room k X.A) (tk : Takes X W) (ha : Pw X e δ fun d => ∃ s, d = .str s ∧ Z s δ) (hg : Gl X "NotPossible" := by rfl)
    (he : starEach (e :: []) X.env = (false, eval e X.env) :: starEach [] X.env := by rfl) (hpl : (backTo pos (starEach [] X.env)).any (·.1) = false := by rfl) :
    SdX X C W (.Raise (some (.Call (.Name "NotPossible" p) [e] [] pos)) none pos2 :: rest) δ N R Z :=
  sdx_step (ps_raiseLow hc T hr tk (pa_cons pe_s pa_nil he) hg he hpl) fun G0 H0 G H σ o E f g z => ha.run G H σ o.ok _ fun v d G' H' g' r ⟨s, e1, q⟩ => by
    subst e1
    cases r
    refine ⟨_, rfl, fun d hd => ?_⟩
    have o' := o.grow g'
    have gg : Gr G' H' (upd G' d (xdW s)) (upd H' d (xdW s)) := Gr.new o'.gr.sg hd
    exact z s d _ _ σ δ (o'.grow gg) q upd_same
end
def spX (C : Addr) (Rl : List D → D → Prop) (Zl : List D → Str → Prop) : Sp := fun vs H Q E => ∃ G ds, Same G H ∧ DTs G vs ds ∧ (∃ o : D ⊕ Str, match o with | .inl r => Rl ds r | .inr s => Zl ds s) ∧
  (∀ v r G' H', Rl ds r → Gr G H G' H' → DT G' v r → Q v H') ∧ (∀ s d G' H', Zl ds s → Gr G H G' H' → H' d = some (xdW s) → E (.ref C) (some d) H')
structure FnX (P : Program) (w : World) (K : PySem.W.Frag) (mg : Str → Option Value) (base : Heap) (C : Addr) (x : Str) (k : Nat) (Rl : List D → D → Prop) (Zl : List D → Str → Prop) : Prop where
  ex : ∃ f fd ps, mg x = some (.ref f) ∧ PySem.W.keepIn K (.ref f) = true ∧ Binds K fd ps [] ∧ FnOk P w K mg base (L2.CX P w) k f fd ps (spX C Rl Zl)
abbrev fxX (P : Program) (w : World) (K : PySem.W.Frag) (mg : Str → Option Value) (base : Heap) (N : List Str) (qual : Str) (sc : Scope) (f : Addr) (cdv : Value) (A : Around) (outer : List Env) (s : Shared) (H : Hp) (E : XK) : Cx :=
  cxOf (L2.CX P w) P w K mg base N qual sc f cdv A outer s H E
theorem fn_mayX {P : Program} {w : World} {K : PySem.W.Frag} {mg : Str → Option Value} {base : Heap} {C : Addr} {x : Str} {st : Stmt} {N ps : List Str} {k : Nat} {Rl : List D → D → Prop} {Zl : List D → Str → Prop} (T : Df K mg x st) (S : FnScope N ps (defScope st))
    (hb : ∀ (kV doc pm : Value) (an : Option Addr) (cdv ct : Value) (us : List Value), us.length = ps.length → bindArgs (PySem.W.fnOf x x (defArgs st) (defBody st) (defScope st) .none kV doc pm an cdv ct) ⟨us, []⟩ = pure (ps.zip us))
    (len : ∀ ds, (∃ o : D ⊕ Str, match o with | .inl r => Rl ds r | .inr s => Zl ds s) → ds.length = ps.length)
    (body : ∀ ds, (∃ o : D ⊕ Str, match o with | .inl r => Rl ds r | .inr s => Zl ds s) → ∀ (f : Addr) (cdv : Value) (A : Around) (outer : List Env) (s : Shared) (H : Hp) (E : XK), Room k (A.deeper (envOfC x (defScope st) s.heap.objs.size f cdv)) →
      SdX (fxX P w K mg base N x (defScope st) f cdv A outer s H E) C (fun cls d _ H => E cls d H) (defBody st) (startC N ds) (fun _ => Rl ds .non) (fun d _ => Rl ds d) (fun s _ => Zl ds s)) : FnX P w K mg base C x (k + 1) Rl Zl := by
  obtain ⟨f, fd, hm, F⟩ := T
  refine ⟨f, fd, ps, hm, F.kp, F.binds hb, F.okX S (fun vs H Q E ⟨G, ds, _, h, ho, _⟩ => by rw [h.length]; exact len ds ho) fun cdv A outer s H vs Q E hr ⟨G, ds, sg, h, ho, q, z⟩ => ?_⟩
  refine ⟨_, pss_s, (body ds ho f cdv A outer s H E hr).run G H G H _ (okb_start sg h) _ (fun G' H' σ' δ' o e => ?_) (fun v d G' H' σ' δ' o dt e => ?_) fun s d G' H' σ' δ' o e hd => ?_⟩
  · exact q .non .non G' H' e o.gr .non
  · exact q v d G' H' e o.gr dt
  · exact z s d G' H' e o.gr hd
section
variable {X : Cx} {C fI : Addr} {W : WX} {e a b c tg iter : Expr} {es : List Expr} {st : Stmt} {rest body : List Stmt} {δ : List Cell} {N : List Cell → Prop} {R : D → List Cell → Prop} {Z : Str → List Cell → Prop} {pos p p2 pos2 : Pos} {x y : Str}
/-- x = f(..), f may raise -/
theorem sdx_setCall {i j k : Nat} {Rl : List D → D → Prop} {Zl : List D → Str → Prop} (F : FnX X.prog X.w X.K X.mg X.base C y j Rl Zl) (tk : Takes X W) (hr : Room k X.A) (hk : j ≤ k) (hg : Gl X y) (hN : X.N.Nodup) (hi : X.N.findIdx? (fun z => z == x) = some i) (hx : Loc X.env.scope x)
    (ha : PwA X (e :: es) δ fun ds => (∃ o : D ⊕ Str, match o with | .inl r => Rl ds r | .inr s => Zl ds s) ∧ (∀ r, Rl ds r → SdX X C W rest (δ.set i (.im r)) N R Z) ∧ (∀ s, Zl ds s → Z s δ)) (hdb : (y == ("__debug__" : Str)) = false := by decide)
    (he : starEach (e :: es) X.env = (false, eval e X.env) :: starEach es X.env := by rfl) (hpl : (backTo pos (starEach es X.env)).any (·.1) = false := by rfl)
    (hs : swapsWith (.Call (.Name y p2) (e :: es) [] pos) (some (.Name x p)) pos2.line X.env = pure false := by rfl) (hf : X.fn x = true ∨ X.env.scope.names.lookup x = some .local := by first | exact .inl rfl | exact .inr rfl) :
    SdX X C W (.Assign [.Name x p] (.Call (.Name y p2) (e :: es) [] pos) pos2 :: rest) δ N R Z := by
  obtain ⟨fa, fd, ps, h1, h2, h3, h4⟩ := F.ex
  refine sdx_step (ps_set hN (ix_get hi) hx (pe_callS h4 (hr.mono hk) hg h1 h2 h3 (fun σ => passAt tk σ) pa_s hdb he hpl) hs hf) fun G0 H0 G H σ o E f g z => ?_
  refine ha.run G H σ o.ok _ fun vs ds G1 H1 g1 r1 ⟨ho, q1, q2⟩ => ?_
  have o1 := o.grow g1
  refine ⟨G1, ds, o1.gr.sg, r1, ho, fun v r G' H' hR g2 dt => ?_, fun s d G' H' hZ g2 hd => ?_⟩
  · exact f G' H' _ _ ((o1.grow g2).set i dt) (q1 r hR)
  · exact z s d G' H' σ δ (o1.grow g2) (q2 s hZ) hd
end
end AL
namespace AL
open PySem PySem.Spec PyProof.Rows L2 Mi
local macro_rules | `(tactic| walk_at "v") => `(tactic| first | exact Or.inl rfl | exact Or.inr rfl | exact Or.inr (Or.inl rfl) | exact Or.inr (Or.inr rfl))
local macro_rules | `(tactic| walk_at "we") => `(tactic| first
  | refine pw_nm rfl (by walk_at "v") rfl ?_
  | refine pw_int ?_
  | refine pw_str ?_
  | refine pw_bl ?_
  | (refine gEcmp ?_; walk_at "wc")
  | refine pw_ix ?_
  | (refine gEcall ?_; walk_at "wf")
  | refine pw_tup ?_
  | refine AL.pw_and ?_
  | refine AL.pw_or ?_
  | refine AL.pw_one ?_
  | refine AL.pw_not ?_
  | (refine gEbin ?_; walk_at "wb")
  | refine pw_slice ?_
  | refine pw_lst ?_
  | refine pw_ife ?_
  | refine pw_neg ?_
  | refine pw_non ?_
  | refine pw_gint rfl (Txt.c_MOST_NOUNS (by assumption)) ?_
  | refine pw_gint rfl (Txt.c_MOST_VERBS (by assumption)) ?_
  | refine pw_gint rfl (Txt.c_MOST_PREMISES (by assumption)) ?_
  | refine pw_gint rfl (Txt.c_MOST_SPEAKER (by assumption)) ?_
  | refine pw_gint rfl (Txt.c_MOST_ASSERTIONS (by assumption)) ?_
  | refine pw_gint rfl (Txt.c_MOST_COMMANDS (by assumption)) ?_
  )
local macro_rules | `(tactic| walk_at "wc") => `(tactic| first
  | refine pw_eqS (by assumption) ?_
  | refine pw_eq ?_
  | refine pw_ne ?_
  | refine pw_chainLe ?_
  | refine pw_lt ?_
  | refine pw_le ?_
  | refine pw_gt ?_
  | refine pw_ge ?_
  | refine pw_inG (Txt.c_TWO_NOUNS (by assumption)) rfl ?_
  | refine pw_inG (Txt.c_QUANTITIES (by assumption)) rfl ?_
  )
local macro_rules | `(tactic| walk_at "wf") => `(tactic| first
  | refine pw_len (Txt.b_len (by assumption)) ?_
  | refine pw_isi_int (Txt.b_isinstance (by assumption)) (Txt.b_int (by assumption)) ?_
  | refine pw_isi_bool (Txt.b_isinstance (by assumption)) (Txt.b_bool (by assumption)) ?_
  | refine pw_isi_str (Txt.b_isinstance (by assumption)) (Txt.b_str (by assumption)) ?_
  | refine pw_isi_tuple (Txt.b_isinstance (by assumption)) (Txt.b_tuple (by assumption)) ?_
  | refine pw_isi_list (Txt.b_isinstance (by assumption)) (Txt.b_list (by assumption)) ?_
  | refine pw_tuple (Txt.b_tuple (by assumption)) ?_
  | refine pw_any rfl (Txt.b_any (by assumption)) ?_
  | refine pw_all rfl (Txt.b_all (by assumption)) ?_
  | refine pw_sum rfl (Txt.b_sum (by assumption)) ?_
  | refine pw_min2 rfl (Txt.b_min (by assumption)) ?_
  | refine pw_max2 rfl (Txt.b_max (by assumption)) ?_
  | refine pw_toInt (Txt.b_int (by assumption)) ?_
  | refine pw_call (by assumption) (by assumption) (by decide) rfl ?_
  )
local macro_rules | `(tactic| walk_at "wb") => `(tactic| first
  | refine pw_add ?_
  | refine pw_sub ?_
  | refine pw_mul ?_
  | refine pw_fdiv ?_
  | refine pw_mod ?_
  )
local macro_rules | `(tactic| walk_at "wt") => `(tactic| first
  | (refine gTcmp ?_; walk_at "wd")
  | refine pwt_w ?_
  | refine pwt_not ?_
  | refine pwt_tru (fun _ => rfl) ?_
  )
local macro_rules | `(tactic| walk_at "wd") => `(tactic| first
  | refine pwt_eqS (by assumption) ?_
  | refine pwt_eq ?_
  | refine pwt_ne ?_
  | refine pwt_lt ?_
  | refine pwt_le ?_
  | refine pwt_gt ?_
  | refine pwt_ge ?_
  | refine pwt_inG (Txt.c_TWO_NOUNS (by assumption)) rfl ?_
  | refine pwt_inG (Txt.c_QUANTITIES (by assumption)) rfl ?_
  | refine pwt_inTup ?_
  | refine pwt_inLst ?_
  )
local macro_rules | `(tactic| walk_at "wl") => `(tactic| first
  | refine br_t rfl ?_
  | refine br_f rfl ?_
  | refine rb_t rfl ?_
  | refine rb_f rfl ?_
  | refine ⟨_, rfl, ?_⟩
  | refine ⟨_, _, rfl, rfl, ?_⟩
  | refine ⟨_, _, rfl, ?_⟩
  | refine ⟨rfl, ?_⟩
  | refine ⟨dp_ok _ rfl rfl, ?_⟩
  | refine ⟨_, _, _, rfl, rfl, rfl, ?_⟩
  | refine ⟨le_line (Nat.le_of_ble_eq_true rfl), ?_⟩
  | refine ⟨_, _, _, rfl, rfl, ?_⟩
  | exact rfl
  )
local macro_rules | `(tactic| walk_at "w1") => `(tactic| first
  | (refine gE ?_; walk_at "we")
  | (refine gT ?_; walk_at "wt")
  | (refine gA ?_; first | refine pwa_cons ?_ | refine pwa_nil ?_)
  | (refine gW ?_; first | refine pww_and ?_ | refine pww_or ?_ | refine pww_and1 ?_ | refine pww_or1 ?_)
  | (refine gS ?_; walk_at "nf"; first | refine sd_ret ?_ | refine sd_if ?_ | refine sd_newLN (by assumption) rfl (by walk_at "v") (Nat.le_of_ble_eq_true rfl) ?_ | refine sd_setN (by assumption) rfl (by walk_at "v") ?_ | refine sd_appendN rfl rfl (by walk_at "v") ?_ | refine sd_nil ?_)
  | (refine gP ?_; first | refine pwp_none ?_ | refine pwp_some ?_)
  | walk_at "wl"
  )
local macro_rules | `(tactic| walk_at "w") => `(tactic| repeat walk_at "w1")

section
variable {P : Program} {w : World} {K : PySem.W.Frag} {mg : Str → Option Value} {base : Heap}
local macro_rules | `(tactic| walk_at "wb") => `(tactic| first | refine pw_catT (pw_slice ?_) | refine pw_catT (pw_nm rfl (by walk_at "v") rfl (pw_tup ?_)))
def canB (l : List Asr) : Cmd → Option Str
  | .assert _ _ => if 8 ≤ l.length then some "many" else none
  | .wd i => if l.length ≤ i then some "missing" else none
def R_behind (l : List Asr) (c : Cmd) : List D → D → Prop := fun ds r => ds = [asrsD l, cmdD c] ∧ l.length ≤ 8 ∧ canB l c = none ∧ r = asrsD (behindA l c)
def Z_behind (l : List Asr) (c : Cmd) : List D → Str → Prop := fun ds s => ds = [asrsD l, cmdD c] ∧ l.length ≤ 8 ∧ canB l c = some s
local macro_rules | `(tactic| walk_at "nf") => `(tactic| first | refine nfS (δ' := [_, _]) rfl ?_ | refine nfE (δ' := [_, _]) rfl ?_ | refine nfT (δ' := [_, _]) rfl ?_ | refine nfTs (δ' := [_, _]) rfl ?_ | refine nfI (δ' := [_, _]) rfl ?_ | refine nfG (δ' := [_, _]) rfl ?_ | refine nfX (δ' := [_, _]) rfl ?_ | refine nfXO (δ' := [_, _]) rfl ?_)
theorem fn_behind {C fI : Addr} (T : Txt K mg) (TL : PySem.LowX.LowTxt K mg C fI) (l : List Asr) (c : Cmd) : FnX P w K mg base C "behind" 4 (R_behind l c) (Z_behind l c) := by
  refine fn_mayX T.d_behind sc_behind (fun _ _ _ _ _ _ us hl => match us, hl with | [_, _], _ => rfl) (fun ds ⟨o, h⟩ => ?_) ?_
  · cases o with
    | inl r => obtain ⟨h, _⟩ := h; rw [h]; rfl
    | inr s => obtain ⟨h, _⟩ := h; rw [h]; rfl
  rintro ds ho f cdv A outer s0 H E hr
  obtain ⟨rfl, hl⟩ : ds = [asrsD l, cmdD c] ∧ l.length ≤ 8 := by
    obtain ⟨o, h⟩ := ho
    cases o with
    | inl r => obtain ⟨h, h2, _⟩ := h; exact ⟨h, h2⟩
    | inr s => obtain ⟨h, h2, _⟩ := h; exact ⟨h, h2⟩
  have nd := sc_behind.nd
  cases c with
  | assert sp x =>
    refine sdx_if ?_
    walk_at "w"
    refine sdx_if ?_
    walk_at "w"
    rw [List.length_map]
    refine ⟨fun h => ?_, fun h => sdx_nil (sdx_of ?_)⟩
    · have h8 : 8 ≤ l.length := by have := of_decide_eq_true h; omega
      exact sdx_raise rfl TL hr (takes_of rfl rfl rfl rfl) (pw_str ⟨_, rfl, rfl, hl, if_pos h8⟩)
    · have h8 : ¬ 8 ≤ l.length := by have := of_decide_eq_false h; omega
      walk_at "w"
      refine ⟨le_line (by rw [List.length_map, List.length_singleton]; omega), rfl, hl, if_neg h8, ?_⟩
      unfold asrsD behindA
      rw [List.map_append]
      rfl
  | wd i =>
    refine sdx_if ?_
    walk_at "w"
    refine sdx_nil (sdx_if ?_)
    walk_at "w"
    rw [List.length_map]
    refine ⟨fun h => ?_, fun h => sdx_nil (sdx_of ?_)⟩
    · have h8 : l.length ≤ i := by have := of_decide_eq_true h; omega
      exact sdx_raise rfl TL hr (takes_of rfl rfl rfl rfl) (pw_str ⟨_, rfl, rfl, hl, if_pos h8⟩)
    · have h8 : ¬ l.length ≤ i := by have := of_decide_eq_false h; omega
      walk_at "w"
      have e1 : (some ((i : Int) + 1)) = some (((i + 1 : Nat) : Int)) := rfl
      rw [e1, cutD_take, cutD_drop]
      refine ⟨le_line (by rw [List.length_take, List.length_drop, List.length_map]; omega), rfl, hl, if_neg h8, ?_⟩
      unfold asrsD behindA
      rw [List.map_append, List.map_take, List.map_drop]
/-- why a command is refused -/
def whyC (n m : Nat) (l : List Asr) (c : Cmd) : Option Str := match canB l c with
  | some s => some s
  | none => match c with
    | .assert sp x => if (conflictsOf n m (saidBy (behindA l c) sp)).isEmpty then none else some "self"
    | .wd _ => none
def Pre_checked (n m : Nat) (l : List Asr) (c : Cmd) : Prop := SigOk n m ∧ AsrOk n m l ∧ c.ok n m
def R_checked (n m : Nat) (l : List Asr) (c : Cmd) : List D → D → Prop := fun ds r => ds = [sigD n m, asrsD l, cmdD c] ∧ Pre_checked n m l c ∧ whyC n m l c = none ∧ r = asrsD (behindA l c)
def Z_checked (n m : Nat) (l : List Asr) (c : Cmd) : List D → Str → Prop := fun ds s => ds = [sigD n m, asrsD l, cmdD c] ∧ Pre_checked n m l c ∧ whyC n m l c = some s
local macro_rules | `(tactic| walk_at "wd") => `(tactic| refine pwt_neD (by assumption) ?_)
local macro_rules | `(tactic| walk_at "nf") => `(tactic| first | refine nfS (δ' := [_, _, _, _]) rfl ?_ | refine nfE (δ' := [_, _, _, _]) rfl ?_ | refine nfT (δ' := [_, _, _, _]) rfl ?_ | refine nfTs (δ' := [_, _, _, _]) rfl ?_ | refine nfI (δ' := [_, _, _, _]) rfl ?_ | refine nfG (δ' := [_, _, _, _]) rfl ?_ | refine nfX (δ' := [_, _, _, _]) rfl ?_ | refine nfXO (δ' := [_, _, _, _]) rfl ?_)
theorem fn_checked {C fI : Addr} (T : Txt K mg) (TL : PySem.LowX.LowTxt K mg C fI) (n m : Nat) (l : List Asr) (c : Cmd) : FnX P w K mg base C "checked" 10 (R_checked n m l c) (Z_checked n m l c) := by
  have F1 : FnX P w K mg base C "behind" 4 (R_behind l c) (Z_behind l c) := fn_behind T TL l c
  have F2 : FnP P w K mg base "said_by" 1 R_said_by := fn_said_by T
  have F3 : FnP P w K mg base "conflicts_of" 8 R_conflicts_of := fn_conflicts_of T
  refine fn_mayX T.d_checked sc_checked (fun _ _ _ _ _ _ us hl => match us, hl with | [_, _, _], _ => rfl) (fun ds ⟨o, h⟩ => ?_) ?_
  · cases o with
    | inl r => obtain ⟨h, _⟩ := h; rw [h]; rfl
    | inr s => obtain ⟨h, _⟩ := h; rw [h]; rfl
  rintro ds ho f cdv A outer s0 H E hr
  obtain ⟨rfl, pre⟩ : ds = [sigD n m, asrsD l, cmdD c] ∧ Pre_checked n m l c := by
    obtain ⟨o, h⟩ := ho
    cases o with
    | inl r => obtain ⟨h, h2, _⟩ := h; exact ⟨h, h2⟩
    | inr s => obtain ⟨h, h2, _⟩ := h; exact ⟨h, h2⟩
  obtain ⟨hs, hl, hc⟩ := id pre
  have nd := sc_checked.nd
  refine sdx_setCall F1 (takes_of rfl rfl rfl rfl) hr (by decide) rfl nd rfl (by walk_at "v") ?_
  walk_at "w"
  refine ⟨?_, fun r hR => ?_, fun s hZ => ⟨rfl, pre, ?_⟩⟩
  · cases hb : canB l c with
    | none => exact ⟨.inl _, rfl, hl.1, hb, rfl⟩
    | some s => exact ⟨.inr s, rfl, hl.1, hb⟩
  · obtain ⟨_, _, hb, rfl⟩ := hR
    have hu := hr.units
    refine sdx_if ?_
    cases c with
    | assert sp x =>
      have h8 : ¬ 8 ≤ l.length := fun h => by rw [show canB l (.assert sp x) = some "many" from if_pos h] at hb; cases hb
      have ok2 : AsrOk n m (behindA l (.assert sp x)) := by
        refine ⟨?_, fun a ha => ?_⟩
        · show (l ++ [(sp, x)]).length ≤ 8
          rw [List.length_append, List.length_singleton]
          omega
        · rcases List.mem_append.mp (show a ∈ l ++ [(sp, x)] from ha) with h | h
          · exact hl.2 a h
          · rw [List.mem_singleton.mp h]; exact ⟨⟨hc.1, hc.2.1⟩, hc.2.2⟩
      walk_at "w"
      refine ⟨_, ⟨_, sp, rfl, ok2.1, rfl⟩, ?_⟩
      walk_at "w"
      refine ⟨_, ⟨n, m, _, rfl, said_prem hs ok2 sp, rfl⟩, ?_⟩
      walk_at "w"
      refine ⟨confs_ok _, ?_⟩
      walk_at "w"
      rw [confs_eq]
      have eW : whyC n m l (.assert sp x) = if (conflictsOf n m (saidBy (behindA l (.assert sp x)) sp)).isEmpty then none else some ("self" : Str) := by
        unfold whyC; rw [hb]
      refine ⟨fun h => ?_, fun h => sdx_nil (sdx_of ?_)⟩
      · have h2 : (conflictsOf n m (saidBy (behindA l (.assert sp x)) sp)).isEmpty = false := by simpa using h
        refine sdx_raise rfl TL hr (takes_of rfl rfl rfl rfl) (pw_str ⟨_, rfl, rfl, pre, ?_⟩)
        rw [eW, h2]
        rfl
      · have h2 : (conflictsOf n m (saidBy (behindA l (.assert sp x)) sp)).isEmpty = true := by simpa using h
        walk_at "w"
        refine ⟨pre, ?_, rfl⟩
        rw [eW, h2]
        rfl
    | wd i =>
      walk_at "w"
      refine sdx_nil (sdx_of ?_)
      walk_at "w"
      refine ⟨pre, ?_, rfl⟩
      unfold whyC
      rw [hb]
  · obtain ⟨_, _, hb⟩ := hZ
    unfold whyC
    rw [hb]
end
end AL
namespace AL
open PySem PySem.Spec PyProof.Rows L2
theorem Ok.deb {G H : Hp} {σ : St} {δ : List Cell} (o : Ok G H σ δ) {i : Nat} {a0 C : Addr} {sg cms : D} {sts : List D} (he : δ[i]? = some (Cell.ow (.at a0 (.deb C sg sts cms)))) :
    ∃ (dx l : Addr) (vs : List V) (v1 v3 : V), σ[i]? = some (some (V.ref a0)) ∧ H a0 = some (.ins C dx [("signature", v1), ("states", .ref l), ("commands", v3)]) ∧ H l = some (.lst vs) ∧ DT G v1 sg ∧ DTs G vs sts ∧ DT G v3 cms := by
  have ob : Okb G (fun _ => none) G H σ δ := by
    obtain ⟨fl, s, nd, fr⟩ := o.sl
    exact ⟨⟨o.sg, Same.refl _, (fun b x q => nomatch q), fun _ _ _ _ => rfl⟩, fl, s, nd, fun a ha => ⟨fr a ha, rfl⟩⟩
  obtain ⟨a, g, h1, ⟨h2, h3⟩, _⟩ := ob.own he
  subst h2
  obtain ⟨dx, l, vs, v1, v3, _, e1, _, e3, r1, r2, r3⟩ := h3
  exact ⟨dx, l, vs, v1, v3, h1, e1, e3, r1, r2, r3⟩
section
variable {X : Cx} {e : Expr} {δ : List Cell} {Q : D → Prop} {pos p2 pos2 : Pos} {y : Str} {i : Nat} {a0 C : Addr} {sg cms : D} {sts : List D}
/-- self.signature -/
theorem pw_fldSig (hC : Cls X.K C) (hn : NoAttr X.K C "signature") (hN : X.N.findIdx? (fun z => z == y) = some i) (he : δ[i]? = some (Cell.ow (.at a0 (.deb C sg sts cms)))) (hv : Vis X.env.scope y) (q : Q sg) (hd : (y == ("__debug__" : Str)) = false := by decide) (hcd : (y == ("__classdict__" : Str)) = false := by decide)
    (hb : attributeBase (.Name y p2) "signature" X.env (eval (.Name y p2) X.env) = eval (.Name y p2) X.env := by rfl) : Pw X (.Attribute (.Name y p2) "signature" pos) δ Q :=
  ⟨fun G H σ o k f => sE_of (pe_fld (pe_var (ix_get hN) hv hd hcd) hb) (by
    obtain ⟨dx, l, vs, v1, v3, h1, e1, e3, r1, r2, r3⟩ := o.deb he
    exact ⟨_, h1, a0, C, dx, _, v1, rfl, e1, hC, hn, rfl, f v1 sg G H (.refl o.sg) r1 q⟩)⟩
/-- self.commands -/
theorem pw_fldCms (hC : Cls X.K C) (hn : NoAttr X.K C "commands") (hN : X.N.findIdx? (fun z => z == y) = some i) (he : δ[i]? = some (Cell.ow (.at a0 (.deb C sg sts cms)))) (hv : Vis X.env.scope y) (q : Q cms) (hd : (y == ("__debug__" : Str)) = false := by decide) (hcd : (y == ("__classdict__" : Str)) = false := by decide)
    (hb : attributeBase (.Name y p2) "commands" X.env (eval (.Name y p2) X.env) = eval (.Name y p2) X.env := by rfl) : Pw X (.Attribute (.Name y p2) "commands" pos) δ Q :=
  ⟨fun G H σ o k f => sE_of (pe_fld (pe_var (ix_get hN) hv hd hcd) hb) (by
    obtain ⟨dx, l, vs, v1, v3, h1, e1, e3, r1, r2, r3⟩ := o.deb he
    exact ⟨_, h1, a0, C, dx, _, v3, rfl, e1, hC, hn, rfl, f v3 cms G H (.refl o.sg) r3 q⟩)⟩
/-- self.states[e] -/
theorem pw_stAt (hC : Cls X.K C) (hn : NoAttr X.K C "states") (hN : X.N.findIdx? (fun z => z == y) = some i) (he : δ[i]? = some (Cell.ow (.at a0 (.deb C sg sts cms)))) (hv : Vis X.env.scope y) (h : Pw X e δ fun d => ∃ j r, d = .int j ∧ atI sts j = some r ∧ Q r) (hd : (y == ("__debug__" : Str)) = false := by decide) (hcd : (y == ("__classdict__" : Str)) = false := by decide)
    (hb : attributeBase (.Name y p2) "states" X.env (eval (.Name y p2) X.env) = eval (.Name y p2) X.env := by rfl) (hs : PlainIx e := by exact fun _ _ => rfl) : Pw X (.Subscript (.Attribute (.Name y p2) "states" pos) e pos2) δ Q :=
  ⟨fun G H σ o k f => sE_of (pe_ix ix_seq (pe_fld (pe_var (ix_get hN) hv hd hcd) hb) pe_s hs) (by
    obtain ⟨dx, l, vs, v1, v3, h1, e1, e3, r1, r2, r3⟩ := o.deb he
    refine ⟨_, h1, a0, C, dx, _, .ref l, rfl, e1, hC, hn, rfl, h.run G H σ o _ fun v d G1 H1 g1 rd ⟨j, r, ed, ea, q⟩ => ?_⟩
    subst ed
    cases rd
    obtain ⟨dx', l', vs', v1', v3', h1', e1', e3', r1', r2', r3'⟩ := (o.grow g1).deb he
    have el : l' = l := by
      have := g1.h _ _ e1
      rw [e1'] at this
      cases this
      rfl
    subst el
    obtain ⟨v, q1, q2⟩ := at_ok r2' ea
    exact .inl ⟨l', vs', j, v, rfl, rfl, .of e3', q1, f v r G1 H1 g1 q2 q⟩)⟩
end
end AL
namespace AL
open PySem PySem.Spec PyProof.Rows L2
section
variable {X : Cx} {e o : Expr} {δ : List Cell} {rest : List Stmt} {N : List Cell → Prop} {R : D → List Cell → Prop} {pos p p2 p3 pos2 apos fpos : Pos} {y : Str} {i : Nat} {a0 C : Addr} {sg cms : D} {sts : List D}
/-- self.states.append(e) -/
theorem sd_stApp (hC : Cls X.K C) (hn : NoAttr X.K C "states") (hN : X.N.findIdx? (fun z => z == y) = some i) (he : δ[i]? = some (Cell.ow (.at a0 (.deb C sg sts cms)))) (hv : Vis X.env.scope y)
    (h : Pw X e δ fun d => sts.length < sizeLine ∧ Sd X rest (δ.set i (.ow (.at a0 (.deb C sg (sts ++ [d]) cms)))) N R) (hd : (y == ("__debug__" : Str)) = false := by decide) (hcd : (y == ("__classdict__" : Str)) = false := by decide)
    (hb0 : attributeBase (.Name y p) "states" X.env (eval (.Name y p) X.env) = eval (.Name y p) X.env := by rfl)
    (hb : attributeBase (.Attribute (.Name y p) "states" fpos) "append" X.env (eval (.Attribute (.Name y p) "states" fpos) X.env) = eval (.Attribute (.Name y p) "states" fpos) X.env := by rfl)
    (hfew : ((backTo p2 (starEach [e] X.env)).all (fun x => !x.1) && (backToKw p2 (keywordEach [] X.env)).all (fun x => x.1.isSome) && decide (([e] : List Expr).length + ([] : List Keyword).length + (if ([] : List Keyword).isEmpty then 0 else 1) < 30)) = true := by rfl)
    (hline : (apos.endLine == p2.line) = true := by rfl) (hs : starEach [e] X.env = (false, eval e X.env) :: starEach [] X.env := by rfl) (hpl : (backTo p2 (starEach [] X.env)).any (·.1) = false := by rfl)
    (hsw : swapsWith (.Call (.Attribute (.Attribute (.Name y p) "states" fpos) "append" apos) [e] [] p2) none p3.line X.env = pure false := by rfl) :
    Sd X (.Expr (.Call (.Attribute (.Attribute (.Name y p) "states" fpos) "append" apos) [e] [] p2) p3 :: rest) δ N R :=
  sd_step (ps_expr (pe_bm PySem.F.plainAttrs_list PySem.F.slot_list_append PySem.F.type_list_append mt_append (pe_fld (pe_var (ix_get hN) hv hd hcd) hb0) (pa_cons pe_s pa_nil hs) hb hfew hline hs hpl) hsw) fun G0 H0 G H σ o E f g => by
    obtain ⟨a, fl, h1, h2, _⟩ := o.own he
    obtain ⟨ea, dx, l, vs, v1, v3, ef, e1, e2, e3, r1, r2, r3⟩ := id h2
    subst ea
    refine ⟨_, h1, a, C, dx, _, .ref l, rfl, e1, hC, hn, rfl, .inl ⟨rfl, vs, .of e3⟩, h.run G H σ o.ok _ fun v d G' H' g' r ⟨hz, q⟩ => ?_⟩
    obtain ⟨fl', h2', k'⟩ := own_step o he h1 g'
    obtain ⟨ea', dx', l', vs', v1', v3', ef', e1', e2', e3', r1', r2', r3'⟩ := id h2'
    have el : l' = l := by
      have z := g'.h _ _ e1
      rw [e1'] at z
      cases z
      rfl
    subst el
    have nda : l' ≠ a ∧ l' ≠ dx' := by
      constructor
      · intro z; subst z; rw [e1'] at e3'; cases e3'
      · intro z; subst z; rw [e2'] at e3'; cases e3'
    refine ⟨l', vs', v, rfl, rfl, e3', by rw [r2'.length]; exact hz, f G' _ σ _ (k' _ (.at a (.deb C sg (sts ++ [d]) cms)) (fun b hb => upd_ne ?_) ⟨rfl, dx', l', vs' ++ [v], v1', v3', ef', ?_, ?_, upd_same, r1', r2'.app (.cons r .nil), r3'⟩) q⟩
    · intro z; subst z; exact hb (by rw [ef']; simp)
    · rw [upd_ne nda.1.symm]; exact e1'
    · rw [upd_ne nda.2.symm]; exact e2'
/-- self.commands = e -/
theorem sd_cmSet (hC : Cls X.K C) (hn : NoAttr X.K C "commands") (hN : X.N.findIdx? (fun z => z == y) = some i) (he : δ[i]? = some (Cell.ow (.at a0 (.deb C sg sts cms)))) (hv : Vis X.env.scope y)
    (h : Pw X e δ fun d => Sd X rest (δ.set i (.ow (.at a0 (.deb C sg sts d)))) N R) (hd : (y == ("__debug__" : Str)) = false := by decide) (hcd : (y == ("__classdict__" : Str)) = false := by decide)
    (hs : swapsWith e (some (.Attribute (.Name y p) "commands" fpos)) pos.line X.env = pure false := by rfl) :
    Sd X (.Assign [.Attribute (.Name y p) "commands" fpos] e pos :: rest) δ N R :=
  sd_step (ps_fld (pe_var (ix_get hN) hv hd hcd) pe_s hs) fun G0 H0 G H σ o E f g => by
    obtain ⟨a, fl, h1, h2, _⟩ := o.own he
    obtain ⟨ea, _⟩ := id h2
    subst ea
    refine h.run G H σ o.ok _ fun v d G' H' g' r q => ?_
    obtain ⟨fl', h2', k'⟩ := own_step o he h1 g'
    obtain ⟨ea', dx', l', vs', v1', v3', ef', e1', e2', e3', r1', r2', r3'⟩ := id h2'
    have nda : l' ≠ a ∧ dx' ≠ a := by
      constructor
      · intro z; subst z; rw [e1'] at e3'; cases e3'
      · intro z; subst z; rw [e1'] at e2'; cases e2'
    refine ⟨_, h1, a, C, dx', _, rfl, e1', hC, hn, by show 3 < 1000; decide, f G' _ σ _ (k' _ (.at a (.deb C sg sts d)) (fun b hb => upd_ne ?_) ⟨rfl, dx', l', vs', v1', v, ef', ?_, ?_, ?_, r1', r2', r⟩) q⟩
    · intro z; subst z; exact hb (by rw [ef']; simp)
    · rw [upd_same]; rfl
    · rw [upd_ne nda.2]; exact e2'
    · rw [upd_ne nda.1]; exact e3'
end
end AL
namespace AL
open PySem PySem.Spec PyProof.Rows L2
def spR (Rl : M → List D → D → Prop) : Sp := fun vs H Q _ => ∃ G a fl m ws ds r, vs = .ref a :: ws ∧ Same G H ∧ Own G H a m fl ∧ fl.Nodup ∧ (∀ b ∈ fl, G b = none) ∧ DTs G ws ds ∧ Rl m ds r ∧ ∀ v G' H', Gr G H G' H' → DT G' v r → Q v H'
structure SdR (X : Cx) (st : List Stmt) (δ : List Cell) (R : D → Prop) : Prop where
  run : ∀ (G H : Hp) (σ : St), Ok G H σ δ → ∀ E : Ends, (∀ v d G' H', Gr G H G' H' → DT G' v d → R d → E.rt v H') → sSs X st E σ H
section
variable {X : Cx} {e c : Expr} {rest ta : List Stmt} {δ : List Cell} {R : D → Prop} {pos : Pos}
theorem sdr_ret (h : Pw X e δ R) : SdR X (.Return (some e) pos :: rest) δ R :=
  ⟨fun G H σ o E g => sSs_of (pss_cons (ps_ret pe_s) pss_s) (h.run G H σ o _ fun v d G' H' g' r q => g v d G' H' g' r q)⟩
/-- a guard that does not hold -/
theorem sdr_skip (hc : PwT X c δ fun t => t = false ∧ SdR X rest δ R) : SdR X (.If c ta [] pos :: rest) δ R :=
  ⟨fun G H σ o E g => sSs_of (pss_cons (ps_if pt_s (pss_s (X := X) (st := ta)) pss_nil) pss_s) (hc.run G H σ o _ fun t G' H' g' ⟨e, q⟩ => by
    subst e
    exact q.run G' H' σ (o.grow g') E fun v d G2 H2 g2 r z => g v d G2 H2 (g'.trans g2) r z)⟩
end
theorem ok_startE {G H : Hp} {a : Addr} {m : M} {fl : List Addr} {N : List Str} {ws : List V} {ds : List D} (s : Same G H) (ow : Own G H a m fl) (nd : fl.Nodup) (fr : ∀ b ∈ fl, G b = none) (r : DTs G ws ds) :
    Ok G H (L2.start N (.ref a :: ws)) (.ow (.at a m) :: (ds.map .im ++ List.replicate (N.length - (ds.length + 1)) .un)) := (okb_startE s ow nd fr r).ok
theorem fn_readF {P : Program} {w : World} {K : PySem.W.Frag} {mg : Str → Option Value} {base : Heap} {x qual : Str} {st : Stmt} {f : Addr} {fd : FuncData} {N ps : List Str} {k : Nat} {Rl : M → List D → D → Prop} (F : Fun K x qual st f fd) (S : FnScope N ps (defScope st))
    (len : ∀ m ds r, Rl m ds r → ds.length + 1 = ps.length)
    (body : ∀ m ds r, Rl m ds r → ∀ (a : Addr) (cdv : Value) (A : Around) (outer : List Env) (s : Shared) (H : Hp) (E : XK), Room k (A.deeper (envOfC qual (defScope st) s.heap.objs.size f cdv)) →
      SdR (fx P w K mg base N qual (defScope st) f cdv A outer s H E) (defBody st) (.ow (.at a m) :: (ds.map .im ++ List.replicate (N.length - (ds.length + 1)) .un)) (fun d => d = r)) :
    FnOk P w K mg base CX0 (k + 1) f fd ps (spR Rl) := by
  refine F.ok S (fun vs H Q E ⟨G, a, fl, m, ws, ds, r, e, _, _, _, _, h, hr, _⟩ => by rw [e, List.length_cons, h.length]; exact len m ds r hr) fun cdv A outer s H vs Q E hr ⟨G, a, fl, m, ws, ds, r, e, sg, ow, nd, fr, h, hR, q⟩ => ?_
  subst e
  refine ⟨_, pss_s, (body m ds r hR a cdv A outer s H E hr).run G H _ (ok_startE sg ow nd fr h) _ fun v d G' H' g r' e => ?_⟩
  subst e
  exact q v G' H' g r'
end AL
namespace AL
open PySem PySem.Spec PyProof.Rows L2 Mi
local macro_rules | `(tactic| walk_at "v") => `(tactic| first | exact Or.inl rfl | exact Or.inr rfl | exact Or.inr (Or.inl rfl) | exact Or.inr (Or.inr rfl))
local macro_rules | `(tactic| walk_at "we") => `(tactic| first
  | refine pw_nm rfl (by walk_at "v") rfl ?_
  | refine pw_int ?_
  | refine pw_str ?_
  | refine pw_bl ?_
  | (refine gEcmp ?_; walk_at "wc")
  | refine pw_ix ?_
  | (refine gEcall ?_; walk_at "wf")
  | refine pw_tup ?_
  | refine AL.pw_and ?_
  | refine AL.pw_or ?_
  | refine AL.pw_one ?_
  | refine AL.pw_not ?_
  | (refine gEbin ?_; walk_at "wb")
  | refine pw_slice ?_
  | refine pw_lst ?_
  | refine pw_ife ?_
  | refine pw_neg ?_
  | refine pw_non ?_
  | refine pw_gint rfl (Txt.c_MOST_NOUNS (by assumption)) ?_
  | refine pw_gint rfl (Txt.c_MOST_VERBS (by assumption)) ?_
  | refine pw_gint rfl (Txt.c_MOST_PREMISES (by assumption)) ?_
  | refine pw_gint rfl (Txt.c_MOST_SPEAKER (by assumption)) ?_
  | refine pw_gint rfl (Txt.c_MOST_ASSERTIONS (by assumption)) ?_
  | refine pw_gint rfl (Txt.c_MOST_COMMANDS (by assumption)) ?_
  )
local macro_rules | `(tactic| walk_at "wc") => `(tactic| first
  | refine pw_eqS (by assumption) ?_
  | refine pw_eq ?_
  | refine pw_ne ?_
  | refine pw_chainLe ?_
  | refine pw_lt ?_
  | refine pw_le ?_
  | refine pw_gt ?_
  | refine pw_ge ?_
  | refine pw_inG (Txt.c_TWO_NOUNS (by assumption)) rfl ?_
  | refine pw_inG (Txt.c_QUANTITIES (by assumption)) rfl ?_
  )
local macro_rules | `(tactic| walk_at "wf") => `(tactic| first
  | refine pw_len (Txt.b_len (by assumption)) ?_
  | refine pw_isi_int (Txt.b_isinstance (by assumption)) (Txt.b_int (by assumption)) ?_
  | refine pw_isi_bool (Txt.b_isinstance (by assumption)) (Txt.b_bool (by assumption)) ?_
  | refine pw_isi_str (Txt.b_isinstance (by assumption)) (Txt.b_str (by assumption)) ?_
  | refine pw_isi_tuple (Txt.b_isinstance (by assumption)) (Txt.b_tuple (by assumption)) ?_
  | refine pw_isi_list (Txt.b_isinstance (by assumption)) (Txt.b_list (by assumption)) ?_
  | refine pw_tuple (Txt.b_tuple (by assumption)) ?_
  | refine pw_any rfl (Txt.b_any (by assumption)) ?_
  | refine pw_all rfl (Txt.b_all (by assumption)) ?_
  | refine pw_sum rfl (Txt.b_sum (by assumption)) ?_
  | refine pw_min2 rfl (Txt.b_min (by assumption)) ?_
  | refine pw_max2 rfl (Txt.b_max (by assumption)) ?_
  | refine pw_toInt (Txt.b_int (by assumption)) ?_
  | refine pw_call (by assumption) (by assumption) (by decide) rfl ?_
  )
local macro_rules | `(tactic| walk_at "wb") => `(tactic| first
  | refine pw_add ?_
  | refine pw_sub ?_
  | refine pw_mul ?_
  | refine pw_fdiv ?_
  | refine pw_mod ?_
  )
local macro_rules | `(tactic| walk_at "wt") => `(tactic| first
  | (refine gTcmp ?_; walk_at "wd")
  | refine pwt_w ?_
  | refine pwt_not ?_
  | refine pwt_tru (fun _ => rfl) ?_
  )
local macro_rules | `(tactic| walk_at "wd") => `(tactic| first
  | refine pwt_eqS (by assumption) ?_
  | refine pwt_eq ?_
  | refine pwt_ne ?_
  | refine pwt_lt ?_
  | refine pwt_le ?_
  | refine pwt_gt ?_
  | refine pwt_ge ?_
  | refine pwt_inG (Txt.c_TWO_NOUNS (by assumption)) rfl ?_
  | refine pwt_inG (Txt.c_QUANTITIES (by assumption)) rfl ?_
  | refine pwt_inTup ?_
  | refine pwt_inLst ?_
  )
local macro_rules | `(tactic| walk_at "wl") => `(tactic| first
  | refine br_t rfl ?_
  | refine br_f rfl ?_
  | refine rb_t rfl ?_
  | refine rb_f rfl ?_
  | refine ⟨_, rfl, ?_⟩
  | refine ⟨_, _, rfl, rfl, ?_⟩
  | refine ⟨_, _, rfl, ?_⟩
  | refine ⟨rfl, ?_⟩
  | refine ⟨dp_ok _ rfl rfl, ?_⟩
  | refine ⟨_, _, _, rfl, rfl, rfl, ?_⟩
  | refine ⟨le_line (Nat.le_of_ble_eq_true rfl), ?_⟩
  | refine ⟨_, _, _, rfl, rfl, ?_⟩
  | exact rfl
  )
local macro_rules | `(tactic| walk_at "w1") => `(tactic| first
  | (refine gE ?_; walk_at "we")
  | (refine gT ?_; walk_at "wt")
  | (refine gA ?_; first | refine pwa_cons ?_ | refine pwa_nil ?_)
  | (refine gW ?_; first | refine pww_and ?_ | refine pww_or ?_ | refine pww_and1 ?_ | refine pww_or1 ?_)
  | (refine gS ?_; walk_at "nf"; first | refine sd_ret ?_ | refine sd_if ?_ | refine sd_newLN (by assumption) rfl (by walk_at "v") (Nat.le_of_ble_eq_true rfl) ?_ | refine sd_setN (by assumption) rfl (by walk_at "v") ?_ | refine sd_appendN rfl rfl (by walk_at "v") ?_ | refine sd_nil ?_)
  | (refine gP ?_; first | refine pwp_none ?_ | refine pwp_some ?_)
  | walk_at "wl"
  )
local macro_rules | `(tactic| walk_at "w") => `(tactic| repeat walk_at "w1")

section
variable {P : Program} {w : World} {K : PySem.W.Frag} {mg : Str → Option Value} {base : Heap}
def R_journal (C : Addr) : M → List D → D → Prop := fun m ds r => ds = [] ∧ ∃ sg sts, m = .deb C sg sts r
theorem fn_journal {C f : Addr} {fd : FuncData} (F : Fun K "journal" "Debate.journal" s_Debate_journal f fd) (hC : Cls K C) (hn : NoAttr K C "commands") : FnOk P w K mg base CX0 2 f fd ["self"] (spR (R_journal C)) := by
  refine fn_readF F sc_Debate_journal (fun m ds r ⟨h, _⟩ => by rw [h]; rfl) ?_
  rintro m ds r ⟨rfl, sg, sts, rfl⟩ a cdv A outer s H E hr
  exact sdr_ret (pw_fldCms hC hn rfl rfl (by walk_at "v") rfl)
def R_assertions (C : Addr) : M → List D → D → Prop := fun m ds r => ds = [] ∧ ∃ sg sts cms, m = .deb C sg sts cms ∧ atI sts (-1) = some r
theorem fn_assertions {C f : Addr} {fd : FuncData} (F : Fun K "assertions" "Debate.assertions" s_Debate_assertions f fd) (hC : Cls K C) (hn : NoAttr K C "states") : FnOk P w K mg base CX0 2 f fd ["self"] (spR (R_assertions C)) := by
  refine fn_readF F sc_Debate_assertions (fun m ds r ⟨h, _⟩ => by rw [h]; rfl) ?_
  rintro m ds r ⟨rfl, sg, sts, cms, rfl, h⟩ a cdv A outer s H E hr
  refine sdr_ret (pw_stAt hC hn rfl rfl (by walk_at "v") ?_)
  walk_at "w"
  exact ⟨_, _, rfl, h, rfl⟩
def R_sentences (C : Addr) : M → List D → D → Prop := fun m ds r => ∃ (sp : Int) (l : List Asr) (sg : D) (sts : List D) (cms : D), ds = [.int sp] ∧ m = .deb C sg sts cms ∧ atI sts (-1) = some (asrsD l) ∧ l.length ≤ 8 ∧ 0 ≤ sp ∧ sp ≤ 5 ∧ r = sensD (saidBy l sp)
theorem fn_sentences {C f : Addr} {fd : FuncData} (T : Txt K mg) (F : Fun K "sentences" "Debate.sentences" s_Debate_sentences f fd) (hC : Cls K C) (hn : NoAttr K C "states") : FnOk P w K mg base CX0 4 f fd ["self", "speaker"] (spR (R_sentences C)) := by
  have F1 : FnP P w K mg base "is_whole" 1 R_is_whole := fn_is_whole T
  have F2 : FnP P w K mg base "said_by" 1 R_said_by := fn_said_by T
  refine fn_readF F sc_Debate_sentences (fun m ds r ⟨_, _, _, _, _, h, _⟩ => by rw [h]; rfl) ?_
  rintro m ds r ⟨sp, l, sg, sts, cms, rfl, rfl, h, hl, s0, s1, rfl⟩ a cdv A outer s H E hr
  refine sdr_skip ?_
  walk_at "w"
  refine ⟨_, mk_is_whole ⟨s0, s1⟩, ?_⟩
  walk_at "w"
  refine sdr_ret (pw_call F2 hr (by decide) rfl (pwa_cons (pw_stAt hC hn rfl rfl (by walk_at "v") ?_)))
  walk_at "w"
  refine ⟨_, _, rfl, h, ?_⟩
  walk_at "w"
  exact ⟨_, ⟨l, sp, rfl, hl, rfl⟩, rfl⟩
end
end AL
namespace AL
open PySem PySem.Spec PyProof.Rows L2
def EndZ (C : Addr) (G H : Hp) (a : Addr) (m : M) (fl : List Addr) (Zl : Str → Prop) (E : XK) : Prop := ∀ s d G' H' fl', Gr G (mL H fl) G' H' → Own G' H' a m fl' → fl'.Nodup → (∀ b ∈ fl', G' b = none ∧ mL H fl b = none) → Zl s → H' d = some (xdW s) → E (.ref C) (some d) H'
def spEX (C : Addr) (Pre : M → List D → Prop) (Rl : M → List D → D → M → Prop) (Zl : M → List D → Str → Prop) : Sp := fun vs H Q E => ∃ G a fl m ws ds, vs = .ref a :: ws ∧ Same G H ∧ Own G H a m fl ∧ fl.Nodup ∧ (∀ b ∈ fl, G b = none) ∧ DTs G ws ds ∧ Pre m ds ∧ EndE G H a fl (Rl m ds) Q ∧ EndZ C G H a m fl (Zl m ds) E
theorem fn_effX {P : Program} {w : World} {K : PySem.W.Frag} {mg : Str → Option Value} {base : Heap} {C : Addr} {x qual : Str} {st : Stmt} {f : Addr} {fd : FuncData} {N ps : List Str} {k : Nat} {Pre : M → List D → Prop} {Rl : M → List D → D → M → Prop} {Zl : M → List D → Str → Prop} (F : Fun K x qual st f fd) (S : FnScope N ps (defScope st))
    (len : ∀ m ds, Pre m ds → ds.length + 1 = ps.length)
    (body : ∀ m ds, Pre m ds → ∀ (a : Addr) (cdv : Value) (A : Around) (outer : List Env) (s : Shared) (H : Hp) (E : XK), Room k (A.deeper (envOfC qual (defScope st) s.heap.objs.size f cdv)) →
      SdX (fxX P w K mg base N qual (defScope st) f cdv A outer s H E) C (fun cls d _ H => E cls d H) (defBody st) (.ow (.at a m) :: (ds.map .im ++ List.replicate (N.length - (ds.length + 1)) .un)) (fun δ' => ∃ m', δ'[0]? = some (.ow (.at a m')) ∧ Rl m ds .non m') (fun d δ' => ∃ m', δ'[0]? = some (.ow (.at a m')) ∧ Rl m ds d m') (fun t δ' => δ'[0]? = some (.ow (.at a m)) ∧ Zl m ds t)) :
    FnOk P w K mg base (L2.CX P w) (k + 1) f fd ps (spEX C Pre Rl Zl) := by
  refine F.okX S (fun vs H Q E ⟨G, a, fl, m, ws, ds, e, _, _, _, _, r, pre, _⟩ => by rw [e, List.length_cons, r.length]; exact len m ds pre) fun cdv A outer s H vs Q E hr ⟨G, a, fl, m, ws, ds, e, sg, ow, nd, fr, r, pre, q, z⟩ => ?_
  subst e
  have back : ∀ {m' : M} {G' H' : Hp} {σ' : St} {δ' : List Cell}, Okb G (mL H fl) G' H' σ' δ' → δ'[0]? = some (Cell.ow (.at a m')) → ∃ fl', Own G' H' a m' fl' ∧ fl'.Nodup ∧ ∀ b ∈ fl', G' b = none ∧ mL H fl b = none := fun {m' G' H' σ' δ'} o e0 => by
    obtain ⟨a', fl', h1, h2, h3, h4, h5⟩ := o.give e0
    obtain ⟨rfl, h2⟩ := h2
    have hin : ∀ b ∈ fl', mL H fl b = none := by
      obtain ⟨a2, g, q1, q2, q3, _⟩ := o.own e0
      intro b hb
      have : fl' = g := by
        rw [h1] at q1
        cases q1
        exact Own.frames h2 q2.2
      subst this
      exact (q3 b hb).2
    exact ⟨fl', h2, h3, fun b hb => ⟨h4 b hb, hin b hb⟩⟩
  refine ⟨_, pss_s, (body m ds pre a cdv A outer s H E hr).run G (mL H fl) G H _ (okb_startE sg ow nd fr r) _ (fun G' H' σ' δ' o e => ?_) (fun v d G' H' σ' δ' o dt e => ?_) fun t d G' H' σ' δ' o e hd => ?_⟩
  · obtain ⟨m', e0, hR⟩ := e
    obtain ⟨fl', h1, h2, h3⟩ := back o e0
    exact q .non .non m' G' H' fl' o.gr h1 h2 h3 .non hR
  · obtain ⟨m', e0, hR⟩ := e
    obtain ⟨fl', h1, h2, h3⟩ := back o e0
    exact q v d m' G' H' fl' o.gr h1 h2 h3 dt hR
  · obtain ⟨e0, hZ⟩ := e
    obtain ⟨fl', h1, h2, h3⟩ := back o e0
    exact z t d G' H' fl' o.gr h1 h2 h3 hZ hd
end AL
namespace AL
open PySem PySem.Spec PyProof.Rows L2 Mi
local macro_rules | `(tactic| walk_at "v") => `(tactic| first | exact Or.inl rfl | exact Or.inr rfl | exact Or.inr (Or.inl rfl) | exact Or.inr (Or.inr rfl))
local macro_rules | `(tactic| walk_at "we") => `(tactic| first
  | refine pw_nm rfl (by walk_at "v") rfl ?_
  | refine pw_int ?_
  | refine pw_str ?_
  | refine pw_bl ?_
  | (refine gEcmp ?_; walk_at "wc")
  | refine pw_ix ?_
  | (refine gEcall ?_; walk_at "wf")
  | refine pw_tup ?_
  | refine AL.pw_and ?_
  | refine AL.pw_or ?_
  | refine AL.pw_one ?_
  | refine AL.pw_not ?_
  | (refine gEbin ?_; walk_at "wb")
  | refine pw_slice ?_
  | refine pw_lst ?_
  | refine pw_ife ?_
  | refine pw_neg ?_
  | refine pw_non ?_
  | refine pw_gint rfl (Txt.c_MOST_NOUNS (by assumption)) ?_
  | refine pw_gint rfl (Txt.c_MOST_VERBS (by assumption)) ?_
  | refine pw_gint rfl (Txt.c_MOST_PREMISES (by assumption)) ?_
  | refine pw_gint rfl (Txt.c_MOST_SPEAKER (by assumption)) ?_
  | refine pw_gint rfl (Txt.c_MOST_ASSERTIONS (by assumption)) ?_
  | refine pw_gint rfl (Txt.c_MOST_COMMANDS (by assumption)) ?_
  )
local macro_rules | `(tactic| walk_at "wc") => `(tactic| first
  | refine pw_eqS (by assumption) ?_
  | refine pw_eq ?_
  | refine pw_ne ?_
  | refine pw_chainLe ?_
  | refine pw_lt ?_
  | refine pw_le ?_
  | refine pw_gt ?_
  | refine pw_ge ?_
  | refine pw_inG (Txt.c_TWO_NOUNS (by assumption)) rfl ?_
  | refine pw_inG (Txt.c_QUANTITIES (by assumption)) rfl ?_
  )
local macro_rules | `(tactic| walk_at "wf") => `(tactic| first
  | refine pw_len (Txt.b_len (by assumption)) ?_
  | refine pw_isi_int (Txt.b_isinstance (by assumption)) (Txt.b_int (by assumption)) ?_
  | refine pw_isi_bool (Txt.b_isinstance (by assumption)) (Txt.b_bool (by assumption)) ?_
  | refine pw_isi_str (Txt.b_isinstance (by assumption)) (Txt.b_str (by assumption)) ?_
  | refine pw_isi_tuple (Txt.b_isinstance (by assumption)) (Txt.b_tuple (by assumption)) ?_
  | refine pw_isi_list (Txt.b_isinstance (by assumption)) (Txt.b_list (by assumption)) ?_
  | refine pw_tuple (Txt.b_tuple (by assumption)) ?_
  | refine pw_any rfl (Txt.b_any (by assumption)) ?_
  | refine pw_all rfl (Txt.b_all (by assumption)) ?_
  | refine pw_sum rfl (Txt.b_sum (by assumption)) ?_
  | refine pw_min2 rfl (Txt.b_min (by assumption)) ?_
  | refine pw_max2 rfl (Txt.b_max (by assumption)) ?_
  | refine pw_toInt (Txt.b_int (by assumption)) ?_
  | refine pw_call (by assumption) (by assumption) (by decide) rfl ?_
  )
local macro_rules | `(tactic| walk_at "wb") => `(tactic| first
  | refine pw_add ?_
  | refine pw_sub ?_
  | refine pw_mul ?_
  | refine pw_fdiv ?_
  | refine pw_mod ?_
  )
local macro_rules | `(tactic| walk_at "wt") => `(tactic| first
  | (refine gTcmp ?_; walk_at "wd")
  | refine pwt_w ?_
  | refine pwt_not ?_
  | refine pwt_tru (fun _ => rfl) ?_
  )
local macro_rules | `(tactic| walk_at "wd") => `(tactic| first
  | refine pwt_eqS (by assumption) ?_
  | refine pwt_eq ?_
  | refine pwt_ne ?_
  | refine pwt_lt ?_
  | refine pwt_le ?_
  | refine pwt_gt ?_
  | refine pwt_ge ?_
  | refine pwt_inG (Txt.c_TWO_NOUNS (by assumption)) rfl ?_
  | refine pwt_inG (Txt.c_QUANTITIES (by assumption)) rfl ?_
  | refine pwt_inTup ?_
  | refine pwt_inLst ?_
  )
local macro_rules | `(tactic| walk_at "wl") => `(tactic| first
  | refine br_t rfl ?_
  | refine br_f rfl ?_
  | refine rb_t rfl ?_
  | refine rb_f rfl ?_
  | refine ⟨_, rfl, ?_⟩
  | refine ⟨_, _, rfl, rfl, ?_⟩
  | refine ⟨_, _, rfl, ?_⟩
  | refine ⟨rfl, ?_⟩
  | refine ⟨dp_ok _ rfl rfl, ?_⟩
  | refine ⟨_, _, _, rfl, rfl, rfl, ?_⟩
  | refine ⟨le_line (Nat.le_of_ble_eq_true rfl), ?_⟩
  | refine ⟨_, _, _, rfl, rfl, ?_⟩
  | exact rfl
  )
local macro_rules | `(tactic| walk_at "w1") => `(tactic| first
  | (refine gE ?_; walk_at "we")
  | (refine gT ?_; walk_at "wt")
  | (refine gA ?_; first | refine pwa_cons ?_ | refine pwa_nil ?_)
  | (refine gW ?_; first | refine pww_and ?_ | refine pww_or ?_ | refine pww_and1 ?_ | refine pww_or1 ?_)
  | (refine gS ?_; walk_at "nf"; first | refine sd_ret ?_ | refine sd_if ?_ | refine sd_newLN (by assumption) rfl (by walk_at "v") (Nat.le_of_ble_eq_true rfl) ?_ | refine sd_setN (by assumption) rfl (by walk_at "v") ?_ | refine sd_appendN rfl rfl (by walk_at "v") ?_ | refine sd_nil ?_)
  | (refine gP ?_; first | refine pwp_none ?_ | refine pwp_some ?_)
  | walk_at "wl"
  )
local macro_rules | `(tactic| walk_at "w") => `(tactic| repeat walk_at "w1")

section
variable {P : Program} {w : World} {K : PySem.W.Frag} {mg : Str → Option Value} {base : Heap}
/-- a debate as data: all states so far (the first empty) and the commands -/
def debM (C : Addr) (n m : Nat) (hist : List (List Asr)) (cs : List Cmd) : M := .deb C (sigD n m) (hist.map asrsD) (.tup (cs.map cmdD))
structure DebOk (n m : Nat) (hist : List (List Asr)) (cs : List Cmd) (l : List Asr) : Prop where
  sig : SigOk n m
  last : hist.getLast? = some l
  ok : AsrOk n m l
  len : hist.length = cs.length + 1
  few : cs.length < 20
def Pre_act (C : Addr) (n m : Nat) (hist : List (List Asr)) (cs : List Cmd) (l : List Asr) (c : Cmd) : M → List D → Prop := fun mm ds => mm = debM C n m hist cs ∧ ds = [cmdD c] ∧ DebOk n m hist cs l ∧ c.ok n m
def R_act (C : Addr) (n m : Nat) (hist : List (List Asr)) (cs : List Cmd) (l : List Asr) (c : Cmd) : M → List D → D → M → Prop := fun _ _ r m' => whyC n m l c = none ∧ r = .int ((cs.length + 1 : Nat) : Int) ∧ m' = debM C n m (hist ++ [behindA l c]) (cs ++ [c])
def Z_act (n m : Nat) (l : List Asr) (c : Cmd) : M → List D → Str → Prop := fun _ _ s => whyC n m l c = some s
theorem atI_last {α : Type} {l : List α} {x : α} (h : l.getLast? = some x) : atI l (-1) = some x := by
  have hne : l ≠ [] := fun e => by rw [e] at h; cases h
  have hp : 0 < l.length := List.length_pos_iff.mpr hne
  unfold atI ixN
  rw [if_neg (by omega), if_pos (by omega)]
  show l[(_ : Int).toNat]? = _
  rw [List.getLast?_eq_getElem?] at h
  rw [← h]
  congr 1
  omega
theorem fn_act {C Cn fI f : Addr} {fd : FuncData} (T : Txt K mg) (TL : PySem.LowX.LowTxt K mg Cn fI) (F : Fun K "act" "Debate.act" s_Debate_act f fd) (hC : Cls K C) (n1 : NoAttr K C "signature") (n2 : NoAttr K C "states") (n3 : NoAttr K C "commands")
    (n m : Nat) (hist : List (List Asr)) (cs : List Cmd) (l : List Asr) (c : Cmd) : FnOk P w K mg base (L2.CX P w) 12 f fd ["self", "command"] (spEX Cn (Pre_act C n m hist cs l c) (R_act C n m hist cs l c) (Z_act n m l c)) := by
  have F1 : FnP P w K mg base "is_command" 5 R_is_command := fn_is_command T
  have F2 : FnX P w K mg base Cn "checked" 10 (R_checked n m l c) (Z_checked n m l c) := fn_checked T TL n m l c
  refine fn_effX F sc_Debate_act (fun m ds ⟨_, h, _⟩ => by rw [h]; rfl) ?_
  rintro mm ds ⟨rfl, rfl, ok, hc⟩ a cdv A outer s H E hr
  have nd := sc_Debate_act.nd
  refine sdx_if ?_
  walk_at "w"
  refine pw_fldSig hC n1 rfl rfl (by walk_at "v") (pwa_nil ⟨_, ⟨n, m, c, rfl, ok.sig, hc, rfl⟩, true, rfl, ⟨fun h => absurd h (by decide), fun _ => sdx_nil ?_⟩⟩)
  refine sdx_setCall F2 (takes_of rfl rfl rfl rfl) hr (by decide) rfl nd rfl (by walk_at "v") ?_
  refine pwa_cons (pw_fldSig hC n1 rfl rfl (by walk_at "v") (pwa_cons (pw_stAt hC n2 rfl rfl (by walk_at "v") ?_)))
  walk_at "w"
  have hl : atI (hist.map asrsD) (-1) = some (asrsD l) := atI_last (by rw [List.getLast?_map, ok.last]; rfl)
  refine ⟨_, _, rfl, hl, pwa_cons (pw_nm rfl (by walk_at "v") rfl (pwa_nil ⟨?_, fun r hR => ?_, fun s hZ => ⟨rfl, hZ.2.2⟩⟩))⟩
  · cases hb : whyC n m l c with
    | none => exact ⟨.inl _, rfl, ⟨ok.sig, ok.ok, hc⟩, hb, rfl⟩
    | some s => exact ⟨.inr s, rfl, ⟨ok.sig, ok.ok, hc⟩, hb⟩
  · obtain ⟨_, _, hw, rfl⟩ := hR
    refine sdx_of ?_
    have zz : ∀ {k : Nat}, k ≤ 1000 → k < sizeLine := fun h => Nat.lt_of_le_of_lt h (by decide)
    have hh := ok.len
    have hf := ok.few
    refine sd_if ?_
    walk_at "w"
    refine pw_fldCms hC n3 rfl rfl (by walk_at "v") (pwa_nil ⟨_, _, rfl, rfl, ?_⟩)
    walk_at "w"
    rw [List.length_map]
    refine ⟨fun h => absurd (of_decide_eq_true h) (by omega), fun _ => sd_nil ?_⟩
    refine sd_stApp hC n2 rfl rfl (by walk_at "v") (pw_nm rfl (by walk_at "v") rfl ⟨by rw [List.length_map]; exact zz (by omega), ?_⟩)
    refine sd_cmSet hC n3 rfl rfl (by walk_at "v") (pw_catT (pw_fldCms hC n3 rfl rfl (by walk_at "v") (pw_tup (pwa_cons (pw_nm rfl (by walk_at "v") rfl (pwa_nil ⟨le_line (Nat.le_of_ble_eq_true rfl), _, _, rfl, rfl, ?_, ?_⟩))))))
    · rw [List.length_map]
      exact Nat.le_of_lt (zz (by show cs.length + 1 ≤ 1000; omega))
    · refine sd_ret (pw_len T.b_len (pwa_cons (pw_fldCms hC n3 rfl rfl (by walk_at "v") (pwa_nil ⟨_, _, rfl, rfl, ?_⟩))))
      refine ⟨_, rfl, hw, ?_, ?_⟩
      · rw [List.length_append, List.length_map, List.length_singleton]
      · unfold debM
        rw [List.map_append, List.map_append]
        rfl
end
end AL
namespace AL
open PySem PySem.Spec PyProof.Rows L2 Mi
local macro_rules | `(tactic| walk_at "v") => `(tactic| first | exact Or.inl rfl | exact Or.inr rfl | exact Or.inr (Or.inl rfl) | exact Or.inr (Or.inr rfl))
local macro_rules | `(tactic| walk_at "we") => `(tactic| first
  | refine pw_nm rfl (by walk_at "v") rfl ?_
  | refine pw_int ?_
  | refine pw_str ?_
  | refine pw_bl ?_
  | (refine gEcmp ?_; walk_at "wc")
  | refine pw_ix ?_
  | (refine gEcall ?_; walk_at "wf")
  | refine pw_tup ?_
  | refine AL.pw_and ?_
  | refine AL.pw_or ?_
  | refine AL.pw_one ?_
  | refine AL.pw_not ?_
  | (refine gEbin ?_; walk_at "wb")
  | refine pw_slice ?_
  | refine pw_lst ?_
  | refine pw_ife ?_
  | refine pw_neg ?_
  | refine pw_non ?_
  | refine pw_gint rfl (Txt.c_MOST_NOUNS (by assumption)) ?_
  | refine pw_gint rfl (Txt.c_MOST_VERBS (by assumption)) ?_
  | refine pw_gint rfl (Txt.c_MOST_PREMISES (by assumption)) ?_
  | refine pw_gint rfl (Txt.c_MOST_SPEAKER (by assumption)) ?_
  | refine pw_gint rfl (Txt.c_MOST_ASSERTIONS (by assumption)) ?_
  | refine pw_gint rfl (Txt.c_MOST_COMMANDS (by assumption)) ?_
  )
local macro_rules | `(tactic| walk_at "wc") => `(tactic| first
  | refine pw_eqS (by assumption) ?_
  | refine pw_eq ?_
  | refine pw_ne ?_
  | refine pw_chainLe ?_
  | refine pw_lt ?_
  | refine pw_le ?_
  | refine pw_gt ?_
  | refine pw_ge ?_
  | refine pw_inG (Txt.c_TWO_NOUNS (by assumption)) rfl ?_
  | refine pw_inG (Txt.c_QUANTITIES (by assumption)) rfl ?_
  )
local macro_rules | `(tactic| walk_at "wf") => `(tactic| first
  | refine pw_len (Txt.b_len (by assumption)) ?_
  | refine pw_isi_int (Txt.b_isinstance (by assumption)) (Txt.b_int (by assumption)) ?_
  | refine pw_isi_bool (Txt.b_isinstance (by assumption)) (Txt.b_bool (by assumption)) ?_
  | refine pw_isi_str (Txt.b_isinstance (by assumption)) (Txt.b_str (by assumption)) ?_
  | refine pw_isi_tuple (Txt.b_isinstance (by assumption)) (Txt.b_tuple (by assumption)) ?_
  | refine pw_isi_list (Txt.b_isinstance (by assumption)) (Txt.b_list (by assumption)) ?_
  | refine pw_tuple (Txt.b_tuple (by assumption)) ?_
  | refine pw_any rfl (Txt.b_any (by assumption)) ?_
  | refine pw_all rfl (Txt.b_all (by assumption)) ?_
  | refine pw_sum rfl (Txt.b_sum (by assumption)) ?_
  | refine pw_min2 rfl (Txt.b_min (by assumption)) ?_
  | refine pw_max2 rfl (Txt.b_max (by assumption)) ?_
  | refine pw_toInt (Txt.b_int (by assumption)) ?_
  | refine pw_call (by assumption) (by assumption) (by decide) rfl ?_
  )
local macro_rules | `(tactic| walk_at "wb") => `(tactic| first
  | refine pw_add ?_
  | refine pw_sub ?_
  | refine pw_mul ?_
  | refine pw_fdiv ?_
  | refine pw_mod ?_
  )
local macro_rules | `(tactic| walk_at "wt") => `(tactic| first
  | (refine gTcmp ?_; walk_at "wd")
  | refine pwt_w ?_
  | refine pwt_not ?_
  | refine pwt_tru (fun _ => rfl) ?_
  )
local macro_rules | `(tactic| walk_at "wd") => `(tactic| first
  | refine pwt_eqS (by assumption) ?_
  | refine pwt_eq ?_
  | refine pwt_ne ?_
  | refine pwt_lt ?_
  | refine pwt_le ?_
  | refine pwt_gt ?_
  | refine pwt_ge ?_
  | refine pwt_inG (Txt.c_TWO_NOUNS (by assumption)) rfl ?_
  | refine pwt_inG (Txt.c_QUANTITIES (by assumption)) rfl ?_
  | refine pwt_inTup ?_
  | refine pwt_inLst ?_
  )
local macro_rules | `(tactic| walk_at "wl") => `(tactic| first
  | refine br_t rfl ?_
  | refine br_f rfl ?_
  | refine rb_t rfl ?_
  | refine rb_f rfl ?_
  | refine ⟨_, rfl, ?_⟩
  | refine ⟨_, _, rfl, rfl, ?_⟩
  | refine ⟨_, _, rfl, ?_⟩
  | refine ⟨rfl, ?_⟩
  | refine ⟨dp_ok _ rfl rfl, ?_⟩
  | refine ⟨_, _, _, rfl, rfl, rfl, ?_⟩
  | refine ⟨le_line (Nat.le_of_ble_eq_true rfl), ?_⟩
  | refine ⟨_, _, _, rfl, rfl, ?_⟩
  | exact rfl
  )
local macro_rules | `(tactic| walk_at "w1") => `(tactic| first
  | (refine gE ?_; walk_at "we")
  | (refine gT ?_; walk_at "wt")
  | (refine gA ?_; first | refine pwa_cons ?_ | refine pwa_nil ?_)
  | (refine gW ?_; first | refine pww_and ?_ | refine pww_or ?_ | refine pww_and1 ?_ | refine pww_or1 ?_)
  | (refine gS ?_; walk_at "nf"; first | refine sd_ret ?_ | refine sd_if ?_ | refine sd_newLN (by assumption) rfl (by walk_at "v") (Nat.le_of_ble_eq_true rfl) ?_ | refine sd_setN (by assumption) rfl (by walk_at "v") ?_ | refine sd_appendN rfl rfl (by walk_at "v") ?_ | refine sd_nil ?_)
  | (refine gP ?_; first | refine pwp_none ?_ | refine pwp_some ?_)
  | walk_at "wl"
  )
local macro_rules | `(tactic| walk_at "w") => `(tactic| repeat walk_at "w1")

section
variable {P : Program} {w : World} {K : PySem.W.Frag} {mg : Str → Option Value} {base : Heap}
/-- what a record says of one command -/
def recD (n m : Nat) (hist : List (List Asr)) (at_ : Nat) : Cmd → D
  | .assert sp x => .tup [cmdD (.assert sp x), modelD (modelOf n m (saidBy (hist.getD (at_ + 1) []) sp))]
  | .wd i => .tup [cmdD (.wd i), .non]
def recsD (n m : Nat) (hist : List (List Asr)) (cs : List Cmd) : List D := cs.zipIdx.map fun p => recD n m hist p.2 p.1
structure HistOk (n m : Nat) (hist : List (List Asr)) (cs : List Cmd) : Prop where
  sig : SigOk n m
  len : hist.length = cs.length + 1
  few : cs.length ≤ 20
  ok : ∀ l ∈ hist, AsrOk n m l
def Pre_records (C : Addr) (n m : Nat) (hist : List (List Asr)) (cs : List Cmd) : M → List D → Prop := fun mm ds => mm = debM C n m hist cs ∧ ds = [] ∧ HistOk n m hist cs
def R_records (C : Addr) (n m : Nat) (hist : List (List Asr)) (cs : List Cmd) : M → List D → D → M → Prop := fun mm _ r m' => m' = mm ∧ r = .tup (recsD n m hist cs)
local macro_rules | `(tactic| walk_at "nf") => `(tactic| first | refine nfS (δ' := [_, _, _, _, _]) rfl ?_ | refine nfE (δ' := [_, _, _, _, _]) rfl ?_ | refine nfT (δ' := [_, _, _, _, _]) rfl ?_ | refine nfTs (δ' := [_, _, _, _, _]) rfl ?_ | refine nfI (δ' := [_, _, _, _, _]) rfl ?_ | refine nfG (δ' := [_, _, _, _, _]) rfl ?_ | refine nfX (δ' := [_, _, _, _, _]) rfl ?_ | refine nfXO (δ' := [_, _, _, _, _]) rfl ?_)
theorem fn_records {C f : Addr} {fd : FuncData} (T : Txt K mg) (F : Fun K "records" "Debate.records" s_Debate_records f fd) (hC : Cls K C) (n1 : NoAttr K C "signature") (n2 : NoAttr K C "states") (n3 : NoAttr K C "commands")
    (n m : Nat) (hist : List (List Asr)) (cs : List Cmd) : FnOk P w K mg base CX0 8 f fd ["self"] (spE (Pre_records C n m hist cs) (R_records C n m hist cs)) := by
  have F1 : FnP P w K mg base "said_by" 1 R_said_by := fn_said_by T
  have F2 : FnP P w K mg base "model_of" 6 R_model_of := fn_model_of T
  refine fn_effF F sc_Debate_records (fun m ds ⟨_, h, _⟩ => by rw [h]; rfl) ?_
  rintro mm ds ⟨rfl, rfl, ok⟩ a cdv A outer s H E hr
  have nd := sc_Debate_records.nd
  refine sd_newLN nd rfl (by walk_at "v") (Nat.le_of_ble_eq_true rfl) ?_
  walk_at "nf"
  refine sd_for (is := [2, 3]) PassesOwn.never rfl (pwi_enumT T.b_enumerate (pwa_cons (pw_fldCms hC n3 rfl rfl (by walk_at "v") (pwa_nil ⟨_, rfl, ?_⟩))))
  have zz : ∀ {k : Nat}, k ≤ 1000 → k < sizeLine := fun h => Nat.lt_of_le_of_lt h (by decide)
  have hh := ok.len
  have hf := ok.few
  refine ⟨Cmd × Nat, cs.zipIdx, fun p => .tup [.int ((p.2 : Nat) : Int), cmdD p.1], fun i δ' => ∃ c2 c3 c4, δ' = [.ow (.at a (debM C n m hist cs)), .ow (.lst ((cs.zipIdx.take i).map fun p => recD n m hist p.2 p.1)), c2, c3, c4], ?_, ⟨_, _, _, rfl⟩, ?_, ?_⟩
  · rw [enD_zip, List.zipIdx_map, List.map_map]; rfl
  · rintro i ⟨c, k⟩ δ' hx ⟨c2, c3, c4, rfl⟩
    dsimp only
    have ej : (cs.zipIdx.take (i + 1)).map (fun p => recD n m hist p.2 p.1) = (cs.zipIdx.take i).map (fun p => recD n m hist p.2 p.1) ++ [recD n m hist k c] := by
      rw [List.take_add_one, hx, List.map_append]; rfl
    have hk : k = i ∧ i < cs.length := by
      have h1 := List.getElem?_eq_some_iff.mp hx
      obtain ⟨h2, h3⟩ := h1
      rw [List.length_zipIdx] at h2
      rw [List.getElem_zipIdx] at h3
      cases h3
      exact ⟨by omega, h2⟩
    obtain ⟨rfl, hk⟩ := hk
    have hl : ((cs.zipIdx.take k).map fun p => recD n m hist p.2 p.1).length ≤ 20 := by
      rw [List.length_map, List.length_take, List.length_zipIdx]
      omega
    rw [ej]
    generalize ((cs.zipIdx.take k).map fun p => recD n m hist p.2 p.1) = l1 at *
    refine pwg_pair nd rfl rfl rfl (by walk_at "v") (by walk_at "v") ?_
    walk_at "nf"
    refine sd_setN nd rfl (by walk_at "v") (pw_non ?_)
    walk_at "nf"
    cases c with
    | wd j =>
      refine sd_if ?_
      walk_at "w"
      exact ⟨zz (by omega), sd_nil ⟨_, _, _, rfl⟩⟩
    | assert sp x =>
      have hlt : k + 1 < hist.length := by omega
      have ha0 : atI (hist.map asrsD) (((k + 1 : Nat)) : Int) = some (asrsD hist[k + 1]) := atI_map (List.getElem?_eq_getElem hlt)
      have ha : atI (hist.map asrsD) ((k : Int) + 1) = some (asrsD hist[k + 1]) := ha0
      have hok : AsrOk n m hist[k + 1] := ok.ok _ (List.getElem_mem hlt)
      have er : recD n m hist k (.assert sp x) = D.tup [cmdD (.assert sp x), modelD (modelOf n m (saidBy hist[k + 1] sp))] := by
        unfold recD
        rw [List.getD_eq_getElem?_getD, List.getElem?_eq_getElem hlt]
        rfl
      rw [er]
      refine sd_if ?_
      walk_at "w"
      refine pw_fldSig hC n1 rfl rfl (by walk_at "v") (pwa_cons (pw_call F1 hr (by decide) rfl (pwa_cons (pw_stAt hC n2 rfl rfl (by walk_at "v") ?_))))
      walk_at "w"
      refine ⟨_, _, rfl, ha, ?_⟩
      walk_at "w"
      refine ⟨_, ⟨_, sp, rfl, hok.1, rfl⟩, pwa_nil ⟨_, ⟨n, m, _, rfl, said_prem ok.sig hok sp, rfl⟩, sd_nil ?_⟩⟩
      walk_at "nf"
      refine sd_appendN rfl rfl (by walk_at "v") ?_
      walk_at "w"
      exact ⟨zz (by omega), sd_nil ⟨_, _, _, rfl⟩⟩
  · rintro δ' ⟨c2, c3, c4, rfl⟩
    have et : (cs.zipIdx.take cs.zipIdx.length) = cs.zipIdx := List.take_length
    rw [et]
    refine sd_freeze 1 rfl rfl ?_
    walk_at "w"
end
end AL
namespace AL
open PySem PySem.Spec PyProof.Rows L2
/-- a read-only method of the class at C -/
structure FnRd (P : Program) (w : World) (K : PySem.W.Frag) (mg : Str → Option Value) (base : Heap) (C : Addr) (m : Str) (k : Nat) (Rl : M → List D → D → Prop) : Prop where
  ex : ∃ f fd ps, Cls K C ∧ Meth K C m f ∧ Binds K fd ps [] ∧ FnOk P w K mg base CX0 k f fd ps (spR Rl)
/-- a method that changes its object -/
structure FnEf (P : Program) (w : World) (K : PySem.W.Frag) (mg : Str → Option Value) (base : Heap) (C : Addr) (m : Str) (k : Nat) (Pre : M → List D → Prop) (Rl : M → List D → D → M → Prop) : Prop where
  ex : ∃ f fd ps, Cls K C ∧ Meth K C m f ∧ Binds K fd ps [] ∧ FnOk P w K mg base CX0 k f fd ps (spE Pre Rl)
/-- a method that changes its object or raises -/
structure FnEX (P : Program) (w : World) (K : PySem.W.Frag) (mg : Str → Option Value) (base : Heap) (Cn C : Addr) (m : Str) (k : Nat) (Pre : M → List D → Prop) (Rl : M → List D → D → M → Prop) (Zl : M → List D → Str → Prop) : Prop where
  ex : ∃ f fd ps, Cls K C ∧ Meth K C m f ∧ Binds K fd ps [] ∧ FnOk P w K mg base (L2.CX P w) k f fd ps (spEX Cn Pre Rl Zl)
theorem Ok.b0 {G H : Hp} {σ : St} {δ : List Cell} (o : Ok G H σ δ) : Okb G (fun _ => none) G H σ δ := by
  obtain ⟨fl, s, nd, fr⟩ := o.sl
  exact ⟨⟨o.sg, Same.refl _, (fun b x q => nomatch q), fun _ _ _ _ => rfl⟩, fl, s, nd, fun a ha => ⟨fr a ha, rfl⟩⟩
theorem Own.debI {G H : Hp} {a C : Addr} {sg cms : D} {sts : List D} {fl : List Addr} (o : Own G H a (.deb C sg sts cms) fl) : ∃ dx v1 l v3, H a = some (.ins C dx [("signature", v1), ("states", .ref l), ("commands", v3)]) := by
  obtain ⟨dx, l, vs, v1, v3, _, e1, _⟩ := o
  exact ⟨dx, v1, l, v3, e1⟩
section
variable {X : Cx} {e : Expr} {δ : List Cell} {Q : D → Prop} {p apos pos : Pos} {y mt : Str} {i j k : Nat} {C Cn : Addr} {sg cms : D} {sts : List D} {Rl : M → List D → D → Prop}
/-- y.m() -/
theorem pw_rd0 {pl : Sem Bool} (F : FnRd X.prog X.w X.K X.mg X.base C mt j Rl) (hr : Room k X.A) (hk : j ≤ k) (hN : X.N.findIdx? (fun z => z == y) = some i) (he : δ[i]? = some (Cell.ow (.deb C sg sts cms))) (hv : Vis X.env.scope y)
    (h : ∃ r, Rl (.deb C sg sts cms) [] r ∧ Q r) (hd : (y == ("__debug__" : Str)) = false := by decide) (hcd : (y == ("__classdict__" : Str)) = false := by decide) (hm : ∀ v1 v2 v3 : V, List.lookup mt [(("signature" : Str), v1), ("states", v2), ("commands", v3)] = none := by intro _ _ _; rfl)
    (ht : eval (.Call (.Attribute (.Name y p) mt apos) [] [] pos) X.env = (do
      let ov ← eval (.Name y p) X.env
      standAt apos.atName
      let (f, first) ← holding [ov] (getMethod ov mt pl)
      callWith pos f first (backTo pos (starEach [] X.env)) (backToKw pos (keywordEach [] X.env))) := by rfl) : Pw X (.Call (.Attribute (.Name y p) mt apos) [] [] pos) δ Q :=
  ⟨fun G H σ o kk f => by
    obtain ⟨fa, fd, ps, h1, h2, h3, h4⟩ := F.ex
    refine sE_of (pe_meth0 (pl := pl) (pe_var (ix_get hN) hv hd hcd) h1 h2 h4 (hr.mono hk) h3 .nil pass0 ht) ?_
    obtain ⟨a, fl, ea, ow, nd, fr, _⟩ := o.b0.give he
    obtain ⟨dx, v1, l, v3, e1⟩ := ow.debI
    obtain ⟨r, hR, q⟩ := h
    exact ⟨_, ea, a, dx, _, rfl, e1, hm _ _ _, G, a, fl, _, [], [], r, rfl, o.sg, ow, nd, fr, .nil, hR, fun v G' H' g dt => f v r G' H' g dt q⟩⟩
/-- y.m(e) -/
theorem pw_rd1 {pl : Sem Bool} (F : FnRd X.prog X.w X.K X.mg X.base C mt j Rl) (hr : Room k X.A) (hk : j ≤ k) (hN : X.N.findIdx? (fun z => z == y) = some i) (he : δ[i]? = some (Cell.ow (.deb C sg sts cms))) (hv : Vis X.env.scope y)
    (h : Pw X e δ fun d => ∃ r, Rl (.deb C sg sts cms) [d] r ∧ Q r) (hd : (y == ("__debug__" : Str)) = false := by decide) (hcd : (y == ("__classdict__" : Str)) = false := by decide) (hm : ∀ v1 v2 v3 : V, List.lookup mt [(("signature" : Str), v1), ("states", v2), ("commands", v3)] = none := by intro _ _ _; rfl)
    (hst : starEach [e] X.env = (false, eval e X.env) :: starEach [] X.env := by rfl) (hpl : (backTo pos (starEach [] X.env)).any (·.1) = false := by rfl)
    (ht : eval (.Call (.Attribute (.Name y p) mt apos) [e] [] pos) X.env = (do
      let ov ← eval (.Name y p) X.env
      standAt apos.atName
      let (f, first) ← holding [ov] (getMethod ov mt pl)
      callWith pos f first (backTo pos (starEach [e] X.env)) (backToKw pos (keywordEach [] X.env))) := by rfl) : Pw X (.Call (.Attribute (.Name y p) mt apos) [e] [] pos) δ Q :=
  ⟨fun G H σ o kk f => by
    obtain ⟨fa, fd, ps, h1, h2, h3, h4⟩ := F.ex
    refine sE_of (pe_meth (pl := pl) (pe_var (ix_get hN) hv hd hcd) h1 h2 h4 (hr.mono hk) h3 .nil pass0 (pa_cons pe_s pa_nil hst) hst hpl ht) ?_
    obtain ⟨a, fl, ea, ow, nd, fr, _⟩ := o.b0.give he
    obtain ⟨dx, v1, l, v3, e1⟩ := ow.debI
    refine ⟨_, ea, a, dx, _, rfl, e1, hm _ _ _, h.run G H σ o _ fun v d G1 H1 g1 r1 ⟨r, hR, q⟩ => ?_⟩
    obtain ⟨a', fl', ea', ow', nd', fr', _⟩ := (o.grow g1).b0.give he
    rw [ea] at ea'
    cases ea'
    exact ⟨G1, a, fl', _, [v], [d], r, rfl, (o.grow g1).sg, ow', nd', fr', .cons r1 .nil, hR, fun v G' H' g dt => f v r G' H' (g1.trans g) dt q⟩⟩
/-- y.m(), the object may change -/
theorem pe_ef0 {pl : Sem Bool} {Q : D → List Cell → Prop} {Pre : M → List D → Prop} {Rl : M → List D → D → M → Prop} (F : FnEf X.prog X.w X.K X.mg X.base C mt j Pre Rl) (hr : Room k X.A) (hk : j ≤ k) (hN : X.N.findIdx? (fun z => z == y) = some i) (he : δ[i]? = some (Cell.ow (.deb C sg sts cms))) (hv : Vis X.env.scope y)
    (h : Pre (.deb C sg sts cms) [] ∧ ∀ r m', Rl (.deb C sg sts cms) [] r m' → Q r (δ.set i (.ow m'))) (hd : (y == ("__debug__" : Str)) = false := by decide) (hcd : (y == ("__classdict__" : Str)) = false := by decide) (hm : ∀ v1 v2 v3 : V, List.lookup mt [(("signature" : Str), v1), ("states", v2), ("commands", v3)] = none := by intro _ _ _; rfl)
    (ht : eval (.Call (.Attribute (.Name y p) mt apos) [] [] pos) X.env = (do
      let ov ← eval (.Name y p) X.env
      standAt apos.atName
      let (f, first) ← holding [ov] (getMethod ov mt pl)
      callWith pos f first (backTo pos (starEach [] X.env)) (backToKw pos (keywordEach [] X.env))) := by rfl) : Pe X (.Call (.Attribute (.Name y p) mt apos) [] [] pos) δ Q :=
  ⟨fun G0 H0 G H σ o kk f => by
    obtain ⟨fa, fd, ps, h1, h2, h3, h4⟩ := F.ex
    refine sE_of (pe_meth0 (pl := pl) (pe_var (ix_get hN) hv hd hcd) h1 h2 h4 (hr.mono hk) h3 .nil pass0 ht) ?_
    obtain ⟨a, fl, ea, ow, nd, fr, back⟩ := o.give he
    obtain ⟨dx, v1, l, v3, e1⟩ := ow.debI
    obtain ⟨pre, q⟩ := h
    exact ⟨_, ea, a, dx, _, rfl, e1, hm _ _ _, G, a, fl, _, [], [], rfl, o.gr.sg, ow, nd, fr, .nil, pre, fun v r m' G' H' fl' g ow' nd' fr' dt hR => f v r G' H' _ (back G' H' m' fl' g ow' nd' fr') g.g dt (q r m' hR)⟩⟩
end
theorem okb_ownM {G0 H0 G H G' H' : Hp} {σ : St} {δ : List Cell} (o : Okb G0 H0 G H σ δ) {a : Addr} {m : M} {fl : List Addr} {j : Nat} (g : Gr G H G' H') (ow : Own G' H' a m fl) (nd : fl.Nodup) (fr : ∀ b ∈ fl, G' b = none ∧ H b = none) (hj : j < δ.length) :
    Okb G0 H0 G' H' (σ.set j (some (.ref a))) (δ.set j (.ow m)) := by
  have o1 := o.grow g
  obtain ⟨f0, s0, nd0, fr0⟩ := id o.sl
  have lv := s0.liveO
  have s1 : Sl G' H' σ δ f0 := s0.mo (.of g.g) fun b hb => by
    obtain ⟨u, e, _⟩ := lv b hb
    rw [e]; exact g.h _ _ e
  obtain ⟨f1, f2, s2, sub⟩ := s1.setO j (by rw [o.ok.length]; exact hj) ow
  have nf : ∀ b ∈ f1 ++ f2, b ∈ f0 := fun b hb => sub.subset hb
  have apart : ∀ b ∈ fl, b ∉ f0 := fun b hb hf => by
    obtain ⟨u, e, _⟩ := lv b hf
    have := (fr b hb).2
    rw [e] at this; cases this
  have nd2 : (f1 ++ (fl ++ f2)).Nodup := by
    have n0 := nd0.sublist sub
    rw [List.nodup_append] at n0 ⊢
    refine ⟨n0.1, ?_, fun x hx y hy e => ?_⟩
    · rw [List.nodup_append]
      exact ⟨nd, n0.2.1, fun x hx y hy e => apart x hx (nf x (List.mem_append_right _ (e ▸ hy)))⟩
    · subst e
      rcases List.mem_append.mp hy with z | z
      · exact apart x z (nf x (List.mem_append_left _ hx))
      · exact n0.2.2 x hx x z rfl
  refine ⟨o1.gr, _, s2, nd2, fun b hb => ?_⟩
  have old : ∀ b ∈ f1 ++ f2, G' b = none ∧ H0 b = none := fun b hb => by
    have hb := nf b hb
    obtain ⟨u, e, n⟩ := lv b hb
    exact ⟨(g.nw b u e n).trans (fr0 b hb).1, (fr0 b hb).2⟩
  rcases List.mem_append.mp hb with z | z
  · exact old b (List.mem_append_left _ z)
  · rcases List.mem_append.mp z with z | z
    · exact ⟨(fr b z).1, o.gr.h.free (fr b z).2⟩
    · exact old b (List.mem_append_right _ z)
/-- the promise of an __init__ -/
def spI (C : Addr) (Pre : List D → Prop) (Rl : List D → M → Prop) : Sp := fun vs H Q _ => ∃ G a dx ws ds, vs = .ref a :: ws ∧ Same G H ∧ H a = some (.ins C dx []) ∧ H dx = some (.own a) ∧ a ≠ dx ∧ G a = none ∧ G dx = none ∧ DTs G ws ds ∧ Pre ds ∧
  ∀ m G' H' fl, Rl ds m → Gr G (mL H [a, dx]) G' H' → Own G' H' a m fl → fl.Nodup → (∀ b ∈ fl, G' b = none ∧ mL H [a, dx] b = none) → Q .non H'
structure FnI (P : Program) (w : World) (K : PySem.W.Frag) (mg : Str → Option Value) (base : Heap) (x : Str) (C : Addr) (k : Nat) (Pre : List D → Prop) (Rl : List D → M → Prop) : Prop where
  ex : ∃ f fd ps, Mk K C f ∧ mg x = some (.ref C) ∧ Binds K fd ps [] ∧ FnOk P w K mg base CX0 k f fd ps (spI C Pre Rl)
theorem mL_new {H : Hp} {a dx : Addr} {C : Addr} (ha : H a = none) (hd : H dx = none) (ne : dx ≠ a) : mL (upd (upd H dx (.own a)) a (.ins C dx [])) [a, dx] = H := by
  funext b
  by_cases h1 : b = a
  · subst h1
    rw [mL_in (by simp), ha]
  · by_cases h2 : b = dx
    · subst h2
      rw [mL_in (by simp), hd]
    · rw [mL_out (by simp [h1, h2]), upd_ne h1, upd_ne h2]
section
variable {X : Cx} {e : Expr} {es : List Expr} {rest : List Stmt} {δ : List Cell} {N : List Cell → Prop} {R : D → List Cell → Prop} {p p2 pos pos2 : Pos} {x y : Str} {i j k : Nat} {C : Addr} {Pre : List D → Prop} {Rl : List D → M → Prop}
/-- x = C(..) -/
theorem sd_mkO (F : FnI X.prog X.w X.K X.mg X.base y C j Pre Rl) (hr : Room k X.A) (hk : j + 1 ≤ k) (hg : Gl X y) (hN : X.N.Nodup) (hi : X.N.findIdx? (fun z => z == x) = some i) (hx : Loc X.env.scope x) (hj : i < δ.length)
    (ha : PwA X (e :: es) δ fun ds => Pre ds ∧ ∀ m, Rl ds m → Sd X rest (δ.set i (.ow m)) N R) (hdb : (y == ("__debug__" : Str)) = false := by decide)
    (he : starEach (e :: es) X.env = (false, eval e X.env) :: starEach es X.env := by rfl) (hpl : (backTo pos (starEach es X.env)).any (·.1) = false := by rfl)
    (hs : swapsWith (.Call (.Name y p2) (e :: es) [] pos) (some (.Name x p)) pos2.line X.env = pure false := by rfl) (hf : X.fn x = true ∨ X.env.scope.names.lookup x = some .local := by first | exact .inl rfl | exact .inr rfl) :
    Sd X (.Assign [.Name x p] (.Call (.Name y p2) (e :: es) [] pos) pos2 :: rest) δ N R := by
  obtain ⟨fa, fd, ps, h1, h2, h3, h4⟩ := F.ex
  refine sd_step (ps_set hN (ix_get hi) hx (pe_make h1 h4 (hr.mono hk) hg h2 h3 .nil pass0 pa_s hdb he hpl) hs hf) fun G0 H0 G H σ o E f g => ?_
  refine ha.run G H σ o.ok _ fun vs ds G1 H1 g1 r1 ⟨pre, q⟩ a dx na nd ne => ?_
  have o1 := o.grow g1
  have sg := o1.gr.sg
  have eL := mL_new (C := C) na nd ne
  show spI C Pre Rl (.ref a :: (vs ++ [])) _ _ E0
  rw [List.append_nil]
  refine ⟨G1, a, dx, vs, ds, rfl, fun b o e => ?_, upd_same, ?_, ne.symm, sg.free na, sg.free nd, r1, pre, fun m G' H' fl hR gr ow ndf fr => ⟨rfl, ?_⟩⟩
  · rw [upd_ne (ne_of_none e (sg.free na)), upd_ne (ne_of_none e (sg.free nd))]
    exact sg b o e
  · rw [upd_ne ne, upd_same]
  · rw [eL] at gr fr
    exact f G' H' _ _ (okb_ownM o1 gr ow ndf fr hj) (q m hR)
end
end AL
namespace L2
open PySem PySem.Spec PyProof.Rows
section
variable {X : Cx} {CX : CXT} {k : Nat} {f C : Addr} {fd : FuncData} {ps : List Str} {sp : Sp} {E : St → XK} {m : Str} {pos apos : Pos} {e o : Expr} {es : List Expr} {ta : TE} {t : TA}
def tMethW (C : Addr) (m : Str) (sp : Sp) (E : St → XK) (ta : TE) (t : TA) : TE := fun σ H Q => ta σ H fun x H1 => ∃ a dx fs, x = .ref a ∧ H1 a = some (.ins C dx fs) ∧ fs.lookup m = none ∧ t σ H1 fun vs H2 => sp (x :: vs) H2 Q (E σ)
theorem pe_methW {pl : Sem Bool} (he : PE X o ta) (c : Cls X.K C) (hm : Meth X.K C m f) (F : FnOk X.prog X.w X.K X.mg X.base CX k f fd ps sp) (hr : Room k X.A) (hb : Binds X.K fd ps []) (hx : ∀ σ, PassesAt CX X σ (E σ)) (ha : PA X (e :: es) t)
    (hst : starEach (e :: es) X.env = (false, eval e X.env) :: starEach es X.env := by rfl) (hpl : (backTo pos (starEach es X.env)).any (·.1) = false := by rfl)
    (ht : eval (.Call (.Attribute o m apos) (e :: es) [] pos) X.env = (do
      let ov ← eval o X.env
      standAt apos.atName
      let (f, first) ← holding [ov] (getMethod ov m pl)
      callWith pos f first (backTo pos (starEach (e :: es) X.env)) (backToKw pos (keywordEach [] X.env))) := by rfl) :
    PE X (.Call (.Attribute o m apos) (e :: es) [] pos) (tMethW C m sp E ta t) := by
  refine ⟨fun pins s σ H Q I h => ?_⟩
  refine PySem.W.methodCall_KW (pl := pl) (thn (he.run pins s σ H _ I h) fun u s1 ⟨x, H1, I1, rx, a, dx, fs, ex, ea, l, q⟩ => ?_) ht
  subst ex
  obtain rfl : u = Value.ref a := rx
  refine getmeth_ok I1 ea c hm l ?_
  refine PySem.W.callWith_K (first := [.ref a]) (h₀ := X.base) I.ok.mod.kin hm.kp (thn (ha.run pos pins s1 σ H1 _ I1 q) fun us s2 ⟨vs, H2, I2, r, q2⟩ => ⟨I2.kIn, ?_⟩) hst hpl
  exact run_fnS (us := .ref a :: us) (vs := .ref a :: vs) F hr hb (hx σ) I2 (.cons rfl r) q2
end
end L2
namespace AL
open PySem PySem.Spec PyProof.Rows L2 Mi
local macro_rules | `(tactic| walk_at "v") => `(tactic| first | exact Or.inl rfl | exact Or.inr rfl | exact Or.inr (Or.inl rfl) | exact Or.inr (Or.inr rfl))
local macro_rules | `(tactic| walk_at "we") => `(tactic| first
  | refine pw_nm rfl (by walk_at "v") rfl ?_
  | refine pw_int ?_
  | refine pw_str ?_
  | refine pw_bl ?_
  | (refine gEcmp ?_; walk_at "wc")
  | refine pw_ix ?_
  | (refine gEcall ?_; walk_at "wf")
  | refine pw_tup ?_
  | refine AL.pw_and ?_
  | refine AL.pw_or ?_
  | refine AL.pw_one ?_
  | refine AL.pw_not ?_
  | (refine gEbin ?_; walk_at "wb")
  | refine pw_slice ?_
  | refine pw_lst ?_
  | refine pw_ife ?_
  | refine pw_neg ?_
  | refine pw_non ?_
  | refine pw_gint rfl (Txt.c_MOST_NOUNS (by assumption)) ?_
  | refine pw_gint rfl (Txt.c_MOST_VERBS (by assumption)) ?_
  | refine pw_gint rfl (Txt.c_MOST_PREMISES (by assumption)) ?_
  | refine pw_gint rfl (Txt.c_MOST_SPEAKER (by assumption)) ?_
  | refine pw_gint rfl (Txt.c_MOST_ASSERTIONS (by assumption)) ?_
  | refine pw_gint rfl (Txt.c_MOST_COMMANDS (by assumption)) ?_
  )
local macro_rules | `(tactic| walk_at "wc") => `(tactic| first
  | refine pw_eqS (by assumption) ?_
  | refine pw_eq ?_
  | refine pw_ne ?_
  | refine pw_chainLe ?_
  | refine pw_lt ?_
  | refine pw_le ?_
  | refine pw_gt ?_
  | refine pw_ge ?_
  | refine pw_inG (Txt.c_TWO_NOUNS (by assumption)) rfl ?_
  | refine pw_inG (Txt.c_QUANTITIES (by assumption)) rfl ?_
  )
local macro_rules | `(tactic| walk_at "wf") => `(tactic| first
  | refine pw_len (Txt.b_len (by assumption)) ?_
  | refine pw_isi_int (Txt.b_isinstance (by assumption)) (Txt.b_int (by assumption)) ?_
  | refine pw_isi_bool (Txt.b_isinstance (by assumption)) (Txt.b_bool (by assumption)) ?_
  | refine pw_isi_str (Txt.b_isinstance (by assumption)) (Txt.b_str (by assumption)) ?_
  | refine pw_isi_tuple (Txt.b_isinstance (by assumption)) (Txt.b_tuple (by assumption)) ?_
  | refine pw_isi_list (Txt.b_isinstance (by assumption)) (Txt.b_list (by assumption)) ?_
  | refine pw_tuple (Txt.b_tuple (by assumption)) ?_
  | refine pw_any rfl (Txt.b_any (by assumption)) ?_
  | refine pw_all rfl (Txt.b_all (by assumption)) ?_
  | refine pw_sum rfl (Txt.b_sum (by assumption)) ?_
  | refine pw_min2 rfl (Txt.b_min (by assumption)) ?_
  | refine pw_max2 rfl (Txt.b_max (by assumption)) ?_
  | refine pw_toInt (Txt.b_int (by assumption)) ?_
  | refine pw_call (by assumption) (by assumption) (by decide) rfl ?_
  )
local macro_rules | `(tactic| walk_at "wb") => `(tactic| first
  | refine pw_add ?_
  | refine pw_sub ?_
  | refine pw_mul ?_
  | refine pw_fdiv ?_
  | refine pw_mod ?_
  )
local macro_rules | `(tactic| walk_at "wt") => `(tactic| first
  | (refine gTcmp ?_; walk_at "wd")
  | refine pwt_w ?_
  | refine pwt_not ?_
  | refine pwt_tru (fun _ => rfl) ?_
  )
local macro_rules | `(tactic| walk_at "wd") => `(tactic| first
  | refine pwt_eqS (by assumption) ?_
  | refine pwt_eq ?_
  | refine pwt_ne ?_
  | refine pwt_lt ?_
  | refine pwt_le ?_
  | refine pwt_gt ?_
  | refine pwt_ge ?_
  | refine pwt_inG (Txt.c_TWO_NOUNS (by assumption)) rfl ?_
  | refine pwt_inG (Txt.c_QUANTITIES (by assumption)) rfl ?_
  | refine pwt_inTup ?_
  | refine pwt_inLst ?_
  )
local macro_rules | `(tactic| walk_at "wl") => `(tactic| first
  | refine br_t rfl ?_
  | refine br_f rfl ?_
  | refine rb_t rfl ?_
  | refine rb_f rfl ?_
  | refine ⟨_, rfl, ?_⟩
  | refine ⟨_, _, rfl, rfl, ?_⟩
  | refine ⟨_, _, rfl, ?_⟩
  | refine ⟨rfl, ?_⟩
  | refine ⟨dp_ok _ rfl rfl, ?_⟩
  | refine ⟨_, _, _, rfl, rfl, rfl, ?_⟩
  | refine ⟨le_line (Nat.le_of_ble_eq_true rfl), ?_⟩
  | refine ⟨_, _, _, rfl, rfl, ?_⟩
  | exact rfl
  )
local macro_rules | `(tactic| walk_at "w1") => `(tactic| first
  | (refine gE ?_; walk_at "we")
  | (refine gT ?_; walk_at "wt")
  | (refine gA ?_; first | refine pwa_cons ?_ | refine pwa_nil ?_)
  | (refine gW ?_; first | refine pww_and ?_ | refine pww_or ?_ | refine pww_and1 ?_ | refine pww_or1 ?_)
  | (refine gS ?_; walk_at "nf"; first | refine sd_ret ?_ | refine sd_if ?_ | refine sd_newLN (by assumption) rfl (by walk_at "v") (Nat.le_of_ble_eq_true rfl) ?_ | refine sd_setN (by assumption) rfl (by walk_at "v") ?_ | refine sd_appendN rfl rfl (by walk_at "v") ?_ | refine sd_nil ?_)
  | (refine gP ?_; first | refine pwp_none ?_ | refine pwp_some ?_)
  | walk_at "wl"
  )
local macro_rules | `(tactic| walk_at "w") => `(tactic| repeat walk_at "w1")

section
variable {P : Program} {w : World} {K : PySem.W.Frag} {mg : Str → Option Value} {base : Heap}
/-- what the top has written of the class Debate -/
structure DebT (K : PySem.W.Frag) (mg : Str → Option Value) (C : Addr) : Prop where
  mgC : mg "Debate" = some (.ref C)
  cl : Cls K C
  n1 : NoAttr K C "signature"
  n2 : NoAttr K C "states"
  n3 : NoAttr K C "commands"
  mak : ∃ f fd, Mk K C f ∧ Fun K "__init__" "Debate.__init__" s_Debate_init f fd
  act : ∃ f fd, Meth K C "act" f ∧ Fun K "act" "Debate.act" s_Debate_act f fd
  asr : ∃ f fd, Meth K C "assertions" f ∧ Fun K "assertions" "Debate.assertions" s_Debate_assertions f fd
  sen : ∃ f fd, Meth K C "sentences" f ∧ Fun K "sentences" "Debate.sentences" s_Debate_sentences f fd
  jrn : ∃ f fd, Meth K C "journal" f ∧ Fun K "journal" "Debate.journal" s_Debate_journal f fd
  rcd : ∃ f fd, Meth K C "records" f ∧ Fun K "records" "Debate.records" s_Debate_records f fd
def Pre_init (n m : Nat) : List D → Prop := fun ds => ds = [sigD n m] ∧ SigOk n m
def R_init (C : Addr) (n m : Nat) : List D → M → Prop := fun _ mm => mm = debM C n m [[]] []
local macro_rules | `(tactic| walk_at "nf") => `(tactic| first | refine nfS (δ' := [_, _]) rfl ?_ | refine nfE (δ' := [_, _]) rfl ?_ | refine nfT (δ' := [_, _]) rfl ?_ | refine nfTs (δ' := [_, _]) rfl ?_ | refine nfI (δ' := [_, _]) rfl ?_ | refine nfG (δ' := [_, _]) rfl ?_ | refine nfX (δ' := [_, _]) rfl ?_ | refine nfXO (δ' := [_, _]) rfl ?_)
theorem fn_init {C : Addr} (T : Txt K mg) (DT0 : DebT K mg C) (n m : Nat) : FnI P w K mg base "Debate" C 4 (Pre_init n m) (R_init C n m) := by
  have F1 : FnP P w K mg base "check_signature" 3 R_check_signature := fn_check_signature T
  obtain ⟨fc, fdc, psc, c1, c2, c3, c4⟩ := F1.ex
  obtain ⟨f, fd, M, F⟩ := DT0.mak
  refine ⟨f, fd, ["self", "signature"], M, DT0.mgC, F.binds (fun _ _ _ _ _ _ us hl => match us, hl with | [_, _], _ => rfl), F.ok sc_Debate_init (fun vs H Q E ⟨G, a, dx, ws, ds, e, _, _, _, _, _, _, r, pre, _⟩ => by rw [e, List.length_cons, r.length, pre.1]; rfl) fun cdv A outer s H vs Q E hr ⟨G, a, dx, ws, ds, e, sg, ha, hd, ne, na, nd, r, ⟨e2, ok⟩, q⟩ => ⟨_, pss_cons (ps_expr (pe_call c4 hr rfl c1 c2 c3 .nil pass0 (pa_cons (pv 1) pa_nil))) (pss_cons (ps_fld (pv 0) (pv 1) rfl) (pss_cons (ps_fld (pv 0) (pe_lst (pa_cons (pe_tup pa_nil) pa_nil)) rfl) (pss_one (ps_fld (pv 0) (pe_tup pa_nil) rfl)))), ?_⟩⟩
  subst e e2
  obtain ⟨v1, rfl, r1⟩ := r.one
  refine ⟨_, rfl, G, [sigD n m], .non, sg, .cons r1 .nil, ⟨n, m, rfl, ok, rfl⟩, fun v G1 H1 g1 _ => ?_⟩
  have ha1 := g1.h _ _ ha
  have hd1 := g1.h _ _ hd
  refine ⟨v1, rfl, _, rfl, a, C, dx, _, rfl, ha1, DT0.cl, DT0.n1, by show 0 < 1000; decide, ?_⟩
  refine ⟨Nat.zero_le _, fun p hp => ⟨by show 1 ≤ sizeLine; decide, fun l hl => ?_⟩⟩
  have lt1 : ∀ {b : Addr} {o : HO}, H1 b = some o → b ≠ p ∧ b ≠ l := fun {b o} e => by
    have hp1 : b ≠ p := fun z => by
      subst z
      by_cases h : b = a
      · subst h; rw [upd_same] at hp; cases hp
      · rw [upd_ne h, e] at hp; cases hp
    refine ⟨hp1, fun z => ?_⟩
    subst z
    rw [upd_ne hp1] at hl
    by_cases h : b = a
    · subst h; rw [upd_same] at hl; cases hl
    · rw [upd_ne h, e] at hl; cases hl
  have apl := lt1 ha1
  have dpl := lt1 hd1
  have pl : p ≠ l := fun z => by subst z; rw [upd_same] at hl; cases hl
  refine ⟨_, rfl, a, C, dx, _, rfl, (by rw [upd_ne apl.2, upd_ne apl.1, upd_same]), DT0.cl, DT0.n2, by show 1 < 1000; decide, ?_⟩
  refine ⟨Nat.zero_le _, fun q0 hq0 => ?_⟩
  have aq : a ≠ q0 := fun z => by subst z; rw [upd_same] at hq0; cases hq0
  have pq : p ≠ q0 := fun z => by subst z; rw [upd_ne apl.1.symm, upd_ne pl, upd_same] at hq0; cases hq0
  have lq : l ≠ q0 := fun z => by subst z; rw [upd_ne apl.2.symm, upd_same] at hq0; cases hq0
  have oq : ∀ {b : Addr} {o : HO}, H1 b = some o → b ≠ q0 := fun {b o} e z => by
    subst z
    have h := lt1 e
    rw [upd_ne aq.symm, upd_ne h.2, upd_ne h.1, upd_ne aq.symm, e] at hq0
    cases hq0
  refine ⟨_, rfl, a, C, dx, _, rfl, (by rw [upd_ne aq, upd_same]), DT0.cl, DT0.n3, by show 2 < 1000; decide, ?_⟩
  have sg1 := g1.sg
  have H1p : H1 p = none := by
    have h := hp
    rwa [upd_ne apl.1.symm] at h
  have H1l : H1 l = none := by
    have h := hl
    rwa [upd_ne pl.symm, upd_ne apl.2.symm] at h
  have H1q : H1 q0 = none := by
    cases e : H1 q0 with
    | none => rfl
    | some o => exact absurd rfl (oq e)
  have Ga : G1 a = none := by rw [g1.nw a _ ha rfl]; exact na
  have Gd : G1 dx = none := by rw [g1.nw dx _ hd rfl]; exact nd
  have Gp := sg1.free H1p
  have Gl := sg1.free H1l
  have Gq := sg1.free H1q
  have s1 : Same G1 (upd (upd G1 p (.tup [])) q0 (.tup [])) := fun b o e => by
    rw [upd_ne (ne_of_none e Gq), upd_ne (ne_of_none e Gp)]
    exact e
  suffices hfin : ∀ HF : Hp, HF a = some (HO.ins C dx [("signature", v1), ("states", .ref l), ("commands", .ref q0)]) → HF q0 = some (.tup []) → HF l = some (.lst [.ref p]) → HF p = some (.tup []) → (∀ b, b ≠ a → b ≠ p → b ≠ l → b ≠ q0 → HF b = H1 b) → Q .non HF from
    hfin _ (by rw [upd_same]; rfl) (by rw [upd_ne aq.symm, upd_same]) (by rw [upd_ne apl.2.symm, upd_ne lq, upd_ne apl.2.symm, upd_same]) (by rw [upd_ne apl.1.symm, upd_ne pq, upd_ne apl.1.symm, upd_ne pl, upd_same]) (fun b h1 h2 h3 h4 => by rw [upd_ne h1, upd_ne h4, upd_ne h1, upd_ne h3, upd_ne h2, upd_ne h1])
  intro HF fa fq fl0 fp fo
  have fd0 : HF dx = some (.own a) := by rw [fo dx ne.symm dpl.1 dpl.2 (oq hd1)]; exact hd1
  have Hl0 : H l = none := g1.h.free H1l
  have inm : ∀ {b : Addr} {o : HO}, mL H [a, dx] b = some o → b ≠ a ∧ b ≠ dx ∧ H b = some o := fun {b o} e => by
    by_cases h : b ∈ [a, dx]
    · rw [mL_in h] at e; cases e
    · rw [mL_out h] at e
      simp at h
      exact ⟨h.1, h.2, e⟩
  refine q _ (upd (upd G1 p (.tup [])) q0 (.tup [])) HF [a, dx, l] rfl ⟨fun b o e => ?_, g1.g.trans s1, fun b o e => ?_, fun b o e hn => ?_⟩ ?_ ?_ fun b hb => ?_
  · by_cases h1 : b = q0
    · subst h1; rw [upd_same] at e; rw [fq]; exact e
    · rw [upd_ne h1] at e
      by_cases h2 : b = p
      · subst h2; rw [upd_same] at e; rw [fp]; exact e
      · rw [upd_ne h2] at e
        rw [fo b (ne_of_none e Ga) h2 (ne_of_none e Gl) h1]
        exact sg1 b o e
  · obtain ⟨h1, h2, h3⟩ := inm e
    have e1 := g1.h _ _ h3
    have h4 := lt1 e1
    rw [fo b h1 h4.1 h4.2 (oq e1)]
    exact e1
  · obtain ⟨h1, h2, h3⟩ := inm e
    have e1 := g1.h _ _ h3
    rw [upd_ne (oq e1), upd_ne (lt1 e1).1]
    exact g1.nw b o h3 hn
  · refine ⟨dx, l, [.ref p], v1, .ref q0, rfl, fa, fd0, fl0, (g1.dt r1).mo (.of s1), .cons (.tup (vs := []) ?_ (Nat.zero_le _) .nil) .nil, .tup (vs := []) upd_same (Nat.zero_le _) .nil⟩
    rw [upd_ne pq, upd_same]
  · simp [ne, apl.2, dpl.2]
  · simp at hb
    rcases hb with rfl | rfl | rfl
    · exact ⟨by rw [upd_ne aq, upd_ne apl.1]; exact Ga, mL_in (by simp)⟩
    · exact ⟨by rw [upd_ne (oq hd1), upd_ne dpl.1]; exact Gd, mL_in (by simp)⟩
    · exact ⟨by rw [upd_ne lq, upd_ne pl.symm]; exact Gl, by rw [mL_out (by simp [apl.2.symm, dpl.2.symm])]; exact Hl0⟩
end
end AL
namespace AL
open PySem PySem.Spec PyProof.Rows L2 Mi
local macro_rules | `(tactic| walk_at "v") => `(tactic| first | exact Or.inl rfl | exact Or.inr rfl | exact Or.inr (Or.inl rfl) | exact Or.inr (Or.inr rfl))
local macro_rules | `(tactic| walk_at "we") => `(tactic| first
  | refine pw_nm rfl (by walk_at "v") rfl ?_
  | refine pw_int ?_
  | refine pw_str ?_
  | refine pw_bl ?_
  | (refine gEcmp ?_; walk_at "wc")
  | refine pw_ix ?_
  | (refine gEcall ?_; walk_at "wf")
  | refine pw_tup ?_
  | refine AL.pw_and ?_
  | refine AL.pw_or ?_
  | refine AL.pw_one ?_
  | refine AL.pw_not ?_
  | (refine gEbin ?_; walk_at "wb")
  | refine pw_slice ?_
  | refine pw_lst ?_
  | refine pw_ife ?_
  | refine pw_neg ?_
  | refine pw_non ?_
  | refine pw_gint rfl (Txt.c_MOST_NOUNS (by assumption)) ?_
  | refine pw_gint rfl (Txt.c_MOST_VERBS (by assumption)) ?_
  | refine pw_gint rfl (Txt.c_MOST_PREMISES (by assumption)) ?_
  | refine pw_gint rfl (Txt.c_MOST_SPEAKER (by assumption)) ?_
  | refine pw_gint rfl (Txt.c_MOST_ASSERTIONS (by assumption)) ?_
  | refine pw_gint rfl (Txt.c_MOST_COMMANDS (by assumption)) ?_
  )
local macro_rules | `(tactic| walk_at "wc") => `(tactic| first
  | refine pw_eqS (by assumption) ?_
  | refine pw_eq ?_
  | refine pw_ne ?_
  | refine pw_chainLe ?_
  | refine pw_lt ?_
  | refine pw_le ?_
  | refine pw_gt ?_
  | refine pw_ge ?_
  | refine pw_inG (Txt.c_TWO_NOUNS (by assumption)) rfl ?_
  | refine pw_inG (Txt.c_QUANTITIES (by assumption)) rfl ?_
  )
local macro_rules | `(tactic| walk_at "wf") => `(tactic| first
  | refine pw_len (Txt.b_len (by assumption)) ?_
  | refine pw_isi_int (Txt.b_isinstance (by assumption)) (Txt.b_int (by assumption)) ?_
  | refine pw_isi_bool (Txt.b_isinstance (by assumption)) (Txt.b_bool (by assumption)) ?_
  | refine pw_isi_str (Txt.b_isinstance (by assumption)) (Txt.b_str (by assumption)) ?_
  | refine pw_isi_tuple (Txt.b_isinstance (by assumption)) (Txt.b_tuple (by assumption)) ?_
  | refine pw_isi_list (Txt.b_isinstance (by assumption)) (Txt.b_list (by assumption)) ?_
  | refine pw_tuple (Txt.b_tuple (by assumption)) ?_
  | refine pw_any rfl (Txt.b_any (by assumption)) ?_
  | refine pw_all rfl (Txt.b_all (by assumption)) ?_
  | refine pw_sum rfl (Txt.b_sum (by assumption)) ?_
  | refine pw_min2 rfl (Txt.b_min (by assumption)) ?_
  | refine pw_max2 rfl (Txt.b_max (by assumption)) ?_
  | refine pw_toInt (Txt.b_int (by assumption)) ?_
  | refine pw_call (by assumption) (by assumption) (by decide) rfl ?_
  )
local macro_rules | `(tactic| walk_at "wb") => `(tactic| first
  | refine pw_add ?_
  | refine pw_sub ?_
  | refine pw_mul ?_
  | refine pw_fdiv ?_
  | refine pw_mod ?_
  )
local macro_rules | `(tactic| walk_at "wt") => `(tactic| first
  | (refine gTcmp ?_; walk_at "wd")
  | refine pwt_w ?_
  | refine pwt_not ?_
  | refine pwt_tru (fun _ => rfl) ?_
  )
local macro_rules | `(tactic| walk_at "wd") => `(tactic| first
  | refine pwt_eqS (by assumption) ?_
  | refine pwt_eq ?_
  | refine pwt_ne ?_
  | refine pwt_lt ?_
  | refine pwt_le ?_
  | refine pwt_gt ?_
  | refine pwt_ge ?_
  | refine pwt_inG (Txt.c_TWO_NOUNS (by assumption)) rfl ?_
  | refine pwt_inG (Txt.c_QUANTITIES (by assumption)) rfl ?_
  | refine pwt_inTup ?_
  | refine pwt_inLst ?_
  )
local macro_rules | `(tactic| walk_at "wl") => `(tactic| first
  | refine br_t rfl ?_
  | refine br_f rfl ?_
  | refine rb_t rfl ?_
  | refine rb_f rfl ?_
  | refine ⟨_, rfl, ?_⟩
  | refine ⟨_, _, rfl, rfl, ?_⟩
  | refine ⟨_, _, rfl, ?_⟩
  | refine ⟨rfl, ?_⟩
  | refine ⟨dp_ok _ rfl rfl, ?_⟩
  | refine ⟨_, _, _, rfl, rfl, rfl, ?_⟩
  | refine ⟨le_line (Nat.le_of_ble_eq_true rfl), ?_⟩
  | refine ⟨_, _, _, rfl, rfl, ?_⟩
  | exact rfl
  )
local macro_rules | `(tactic| walk_at "w1") => `(tactic| first
  | (refine gE ?_; walk_at "we")
  | (refine gT ?_; walk_at "wt")
  | (refine gA ?_; first | refine pwa_cons ?_ | refine pwa_nil ?_)
  | (refine gW ?_; first | refine pww_and ?_ | refine pww_or ?_ | refine pww_and1 ?_ | refine pww_or1 ?_)
  | (refine gS ?_; walk_at "nf"; first | refine sd_ret ?_ | refine sd_if ?_ | refine sd_newLN (by assumption) rfl (by walk_at "v") (Nat.le_of_ble_eq_true rfl) ?_ | refine sd_setN (by assumption) rfl (by walk_at "v") ?_ | refine sd_appendN rfl rfl (by walk_at "v") ?_ | refine sd_nil ?_)
  | (refine gP ?_; first | refine pwp_none ?_ | refine pwp_some ?_)
  | walk_at "wl"
  )
local macro_rules | `(tactic| walk_at "w") => `(tactic| repeat walk_at "w1")

section
variable {P : Program} {w : World} {K : PySem.W.Frag} {mg : Str → Option Value} {base : Heap}
def R_canonical : List D → D → Prop := fun ds r => ∃ (n m : Nat) (ps : List Sen), ds = [sigD n m, sensD ps] ∧ Prem n m ps ∧ conflictsOf n m ps = [] ∧ r = modelD (modelOf n m ps)
local macro_rules | `(tactic| walk_at "nf") => `(tactic| first | refine nfS (δ' := [_, _]) rfl ?_ | refine nfE (δ' := [_, _]) rfl ?_ | refine nfT (δ' := [_, _]) rfl ?_ | refine nfTs (δ' := [_, _]) rfl ?_ | refine nfI (δ' := [_, _]) rfl ?_ | refine nfG (δ' := [_, _]) rfl ?_ | refine nfX (δ' := [_, _]) rfl ?_ | refine nfXO (δ' := [_, _]) rfl ?_)
theorem fn_canonical_model (T : Txt K mg) : FnP P w K mg base "canonical_model" 9 R_canonical := by
  have F1 : FnP P w K mg base "check_premises" 6 R_check_premises := fn_check_premises T
  have F2 : FnP P w K mg base "conflicts_of" 8 R_conflicts_of := fn_conflicts_of T
  have F3 : FnP P w K mg base "model_of" 6 R_model_of := fn_model_of T
  refine fn_pure T.d_canonical_model sc_canonical_model (fun _ _ _ _ _ _ us hl => match us, hl with | [_, _], _ => rfl) (fun ds r ⟨_, _, _, h, _⟩ => by rw [h]; rfl) ?_
  rintro ds r ⟨n, m, ps, rfl, ok, hc, rfl⟩ f cdv A outer s0 H E hr
  walk_at "nf"
  refine sd_expr ?_
  walk_at "w"
  refine ⟨_, ⟨n, m, ps, rfl, ok, rfl⟩, ?_⟩
  refine sd_if (pwt_tru (fun _ => rfl) ?_)
  walk_at "w"
  refine ⟨_, ⟨n, m, ps, rfl, ok, rfl⟩, ?_⟩
  rw [hc]
  refine ⟨_, rfl, fun h => (by cases h), fun _ => sd_nil ?_⟩
  walk_at "w"
  exact ⟨_, ⟨n, m, ps, rfl, ok, rfl⟩, rfl⟩
local macro_rules | `(tactic| walk_at "nf") => `(tactic| first | refine nfS (δ' := [_, _, _]) rfl ?_ | refine nfE (δ' := [_, _, _]) rfl ?_ | refine nfT (δ' := [_, _, _]) rfl ?_ | refine nfTs (δ' := [_, _, _]) rfl ?_ | refine nfI (δ' := [_, _, _]) rfl ?_ | refine nfG (δ' := [_, _, _]) rfl ?_ | refine nfX (δ' := [_, _, _]) rfl ?_ | refine nfXO (δ' := [_, _, _]) rfl ?_)
theorem fn_law_canonical {Cn fI : Addr} (T : Txt K mg) (TL : PySem.LowX.LowTxt K mg Cn fI) : FnP P w K mg base "_law_canonical" 10 R_canonical := by
  have F1 : FnP P w K mg base "canonical_model" 9 R_canonical := fn_canonical_model T
  obtain ⟨fc, fdc, psc, c1, c2, c3, c4⟩ := F1.ex
  refine fn_pure T.d_law_canonical sc_law_canonical (fun _ _ _ _ _ _ us hl => match us, hl with | [_, _], _ => rfl) (fun ds r ⟨_, _, _, h, _⟩ => by rw [h]; rfl) ?_
  rintro ds r ⟨n, m, ps, rfl, ok, hc, rfl⟩ f cdv A outer s0 H E hr
  have nd := sc_law_canonical.nd
  refine sd_step (ps_try_as (i := 2) (tb := fun W => tRet (tCall (spP R_canonical) [] E0 (tCons (tVar 0) (tCons (tVar 1) tNil)))) (ts := fun a cls d => tRet (tLst (tCons (tC (.str "not")) (tCons (tByLow Cn a cls d (tVar 2)) tNil)))) (Wout := fun _ _ _ _ => False) rfl rfl nd rfl rfl ⟨rfl, by decide, Or.inl TL.gC⟩ takes0
    (fun W pn xe tk _ => pss_one (ps_ret (pe_call c4 hr rfl c1 c2 c3 .nil pass0 (pa_cons (pv 0) (pa_cons (pv 1) pa_nil)))))
    (fun a oe cls d pn hz hf => pss_one (ps_ret (pe_lst (pa_cons pe_str (pa_cons (pe_byLow TL hz hf (pv 2)) pa_nil)))))) fun G0 H0 G H1 σ o E1 f1 g1 => ?_
  obtain ⟨v0, h0, r0⟩ := o.ok.get (i := 0) rfl
  obtain ⟨v1, h1, r1⟩ := o.ok.get (i := 1) rfl
  exact ⟨v0, h0, v1, h1, G, [_, _], _, o.gr.sg, .cons r0 (.cons r1 .nil), ⟨n, m, ps, rfl, ok, hc, rfl⟩, fun v G' H' g dt => g1 v _ G' H' σ _ (o.grow g) dt rfl⟩
def R_told (C : Addr) (n m : Nat) (hist : List (List Asr)) (cs : List Cmd) (l : List Asr) (c : Cmd) : M → List D → D → M → Prop := fun mm _ r m' =>
  (whyC n m l c = none ∧ r = .int ((cs.length + 1 : Nat) : Int) ∧ m' = debM C n m (hist ++ [behindA l c]) (cs ++ [c])) ∨ (∃ s, whyC n m l c = some s ∧ r = .tup [.str "not", .str s] ∧ m' = mm)
local macro_rules | `(tactic| walk_at "nf") => `(tactic| first | refine nfS (δ' := [_, _, _]) rfl ?_ | refine nfE (δ' := [_, _, _]) rfl ?_ | refine nfT (δ' := [_, _, _]) rfl ?_ | refine nfTs (δ' := [_, _, _]) rfl ?_ | refine nfI (δ' := [_, _, _]) rfl ?_ | refine nfG (δ' := [_, _, _]) rfl ?_ | refine nfX (δ' := [_, _, _]) rfl ?_ | refine nfXO (δ' := [_, _, _]) rfl ?_)
theorem fn_told {C Cn fI : Addr} (T : Txt K mg) (TL : PySem.LowX.LowTxt K mg Cn fI) (DT0 : DebT K mg C) (n m : Nat) (hist : List (List Asr)) (cs : List Cmd) (l : List Asr) (c : Cmd) : FnE P w K mg base "_law_told" 13 (Pre_act C n m hist cs l c) (R_told C n m hist cs l c) := by
  obtain ⟨fa, fda, me, Fa⟩ := DT0.act
  have FA : FnOk P w K mg base (L2.CX P w) 12 fa fda ["self", "command"] (spEX Cn (Pre_act C n m hist cs l c) (R_act C n m hist cs l c) (Z_act n m l c)) := fn_act T TL Fa DT0.cl DT0.n1 DT0.n2 DT0.n3 n m hist cs l c
  have bA : Binds K fda ["self", "command"] [] := Fa.binds (fun _ _ _ _ _ _ us hl => match us, hl with | [_, _], _ => rfl)
  obtain ⟨f, fd, hm, F⟩ := T.d_law_told
  refine ⟨f, fd, _, hm, F.kp, F.binds (fun _ _ _ _ _ _ us hl => match us, hl with | [_, _], _ => rfl), fn_effF F sc_law_told (fun m ds ⟨_, h, _⟩ => by rw [h]; rfl) ?_⟩
  rintro mm ds ⟨rfl, rfl, ok, hc⟩ a cdv A outer s0 H E hr
  have nd := sc_law_told.nd
  refine sd_step (ps_try_as (i := 2) (tb := fun W => tRet (tMethW C "act" (spEX Cn (Pre_act C n m hist cs l c) (R_act C n m hist cs l c) (Z_act n m l c)) (WE W) (tVar 0) (tCons (tVar 1) tNil))) (ts := fun a cls d => tRet (tTup (tCons (tC (.str "not")) (tCons (tByLow Cn a cls d (tVar 2)) tNil)))) (Wout := fun _ _ _ _ => False) rfl rfl nd rfl rfl ⟨rfl, by decide, Or.inl TL.gC⟩ takes0
    (fun W pn xe tk _ => pss_one (ps_ret (pe_methW (pv 0) DT0.cl me FA hr bA (fun σ => passAt tk σ) (pa_cons (pv 1) pa_nil))))
    (fun a oe cls d pn hz hf => pss_one (ps_ret (pe_tup (pa_cons pe_str (pa_cons (pe_byLow TL hz hf (pv 2)) pa_nil)))))) fun G0 H0 G H1 σ o E1 f1 g1 => ?_
  obtain ⟨a1, fl, ea, ow, ndf, fr, back⟩ := o.giveA (i := 0) rfl
  obtain ⟨v1, h1, r1⟩ := o.ok.get (i := 1) rfl
  obtain ⟨dx, u1, l1, u3, e1⟩ := ow.debI
  have hlen : σ.length = 3 := o.ok.length
  refine ⟨_, ea, a1, dx, _, rfl, e1, rfl, v1, h1, G, a1, fl, _, [v1], [cmdD c], rfl, o.gr.sg, ow, ndf, fr, .cons r1 .nil, ⟨rfl, rfl, ok, hc⟩, ?_, ?_⟩
  · intro v r m' G' H' fl' gr ow' nd' fr' dt hR
    exact g1 v r G' H' σ _ (back G' H' m' fl' gr ow' nd' fr') dt ⟨m', rfl, .inl hR⟩
  · intro t d G' H' fl' gr ow' nd' fr' hZ hd
    have o2 := back G' H' _ fl' gr ow' nd' fr'
    refine ⟨true, TL.te, fun _ a0 _ => ?_, fun q => Bool.noConfusion q⟩
    refine ⟨.ref a0, by rw [List.getElem?_set_self (by omega)], rfl, rfl, d, .str t, rfl, hd, by show 2 ≤ sizeLine; decide, fun p hp => ?_⟩
    have g2 : Gr G' H' (upd G' p (.tup [.str "not", .str t])) (upd H' p (.tup [.str "not", .str t])) := Gr.new o2.gr.sg hp
    exact g1 (.ref p) (.tup [.str "not", .str t]) _ _ σ _ (o2.grow g2) (.tup upd_same (by show 2 ≤ sizeLine; decide) (.cons (.str _) (.cons (.str _) .nil))) ⟨_, rfl, .inr ⟨t, hZ, rfl, rfl⟩⟩
end
end AL
namespace Mi
section
variable {α : Type} [DecidableEq α]
theorem same_len_mem {l m : List α} (h : l.Nodup) (s : ∀ x ∈ l, x ∈ m) (e : m.length ≤ l.length) : ∀ x ∈ m, x ∈ l := fun x hx => by
  by_cases c : x ∈ l
  · exact c
  · have := nodup_sub_len (l := x :: l) (m := m) (List.nodup_cons.mpr ⟨c, h⟩) (fun y hy => by
      rcases List.mem_cons.mp hy with rfl | hy
      · exact hx
      · exact s y hy)
    rw [List.length_cons] at this
    omega
end
/-- tables that nothing more comes to -/
structure Clo (s m : Tab) : Prop where
  more : ∀ p ∈ moreOf s m, p ∈ s
  many : ∀ p ∈ manyOf s m, p ∈ m
theorem tstep_same {s m : Tab} (h : (tstep s m).1.length + (tstep s m).2.length ≤ s.length + m.length) : Clo s m ∧ tstep s m = (s, m) := by
  have h1 := (tstep_le (s := s) (m := m)).1
  have h2 := (tstep_le (s := s) (m := m)).2
  have c : Clo s m := ⟨puts_len_same (l := s) (by show (tstep s m).1.length = _; omega), puts_len_same (l := m) (by show (tstep s m).2.length = _; omega)⟩
  exact ⟨c, Prod.ext (puts_same c.more) (puts_same c.many)⟩
theorem tfix_clo {n : Nat} : ∀ {f : Nat} {s m : Tab}, TabOk n s → TabOk n m → 2 * (n * n) < f + (s.length + m.length) → Clo (tfix f s m).1 (tfix f s m).2 ∧ TabOk n (tfix f s m).1 ∧ TabOk n (tfix f s m).2 ∧ (∀ p ∈ s, p ∈ (tfix f s m).1) ∧ (∀ p ∈ m, p ∈ (tfix f s m).2)
  | 0, s, m, hs, hm, h => absurd h (by have := hs.len; have := hm.len; omega)
  | f + 1, s, m, hs, hm, h => by
    unfold tfix
    by_cases c : (tstep s m).1.length + (tstep s m).2.length > s.length + m.length
    · rw [if_pos c]
      obtain ⟨h1, h2, h3, h4, h5⟩ := tfix_clo (f := f) (tstep_ok hs hm).1 (tstep_ok hs hm).2 (by omega)
      exact ⟨h1, h2, h3, fun p hp => h4 p (mem_puts.mpr (.inl hp)), fun p hp => h5 p (mem_puts.mpr (.inl hp))⟩
    · rw [if_neg c]
      obtain ⟨h1, h2⟩ := tstep_same (s := s) (m := m) (by omega)
      rw [h2]
      exact ⟨h1, hs, hm, fun p hp => hp, fun p hp => hp⟩
theorem mem_subs : ∀ {ps : List Sen} {t : Tab}, (∀ p ∈ t, p ∈ ps.foldl subPut t) ∧ ∀ x y, Sen.all x y ∈ ps → (x, y) ∈ ps.foldl subPut t
  | [], t => ⟨fun p h => h, fun x y h => nomatch h⟩
  | a :: r, t => by
    obtain ⟨h1, h2⟩ := mem_subs (ps := r) (t := subPut t a)
    have g : ∀ p ∈ t, p ∈ subPut t a := fun p hp => by
      cases a <;> first | exact hp | exact mem_put.mpr (.inl hp)
    refine ⟨fun p hp => h1 p (g p hp), fun x y h => ?_⟩
    rcases List.mem_cons.mp h with rfl | h
    · exact h1 _ (mem_put.mpr (.inr rfl))
    · exact h2 x y h
theorem mem_mosts : ∀ {ps : List Sen} {t : Tab}, (∀ p ∈ t, p ∈ ps.foldl mostPut t) ∧ (∀ x y, Sen.many x y ∈ ps → (x, y) ∈ ps.foldl mostPut t) ∧ ∀ x y, Sen.fewer x y ∈ ps → (y, x) ∈ ps.foldl mostPut t
  | [], t => ⟨fun p h => h, fun x y h => (nomatch h), fun x y h => (nomatch h)⟩
  | a :: r, t => by
    obtain ⟨h1, h2, h3⟩ := mem_mosts (ps := r) (t := mostPut t a)
    have g : ∀ p ∈ t, p ∈ mostPut t a := fun p hp => by
      cases a <;> first | exact hp | exact mem_put.mpr (.inl hp)
    refine ⟨fun p hp => h1 p (g p hp), fun x y h => ?_, fun x y h => ?_⟩
    · rcases List.mem_cons.mp h with rfl | h
      · exact h1 _ (mem_put.mpr (.inr rfl))
      · exact h2 x y h
    · rcases List.mem_cons.mp h with rfl | h
      · exact h1 _ (mem_put.mpr (.inr rfl))
      · exact h3 x y h
/-- what the tables are -/
structure Tb (n : Nat) (ps : List Sen) (s m : Tab) : Prop where
  so : TabOk n s
  mo : TabOk n m
  refl : ∀ {x}, Nn n x → has s x x = true
  trans : ∀ {x y z}, has s x y = true → has s y z = true → has s x z = true
  eqv : ∀ {x y}, has s x y = true → has m x y = true → has s y x = true
  mtrans : ∀ {x y z}, has m x y = true → has m y z = true → has m x z = true
  ms : ∀ {x y}, has s x y = true → has m y x = true
  all : ∀ {x y}, Sen.all x y ∈ ps → has s x y = true
  many : ∀ {x y}, Sen.many x y ∈ ps → has m x y = true
  fewer : ∀ {x y}, Sen.fewer x y ∈ ps → has m y x = true
theorem has_iff {t : Tab} {x y : Int} : has t x y = true ↔ (x, y) ∈ t := by unfold has; rw [decide_eq_true_eq]
theorem table_tb {n m : Nat} {ps : List Sen} (hx : ∀ x ∈ ps, x.ok n m) : Tb n ps (tableOf n ps).1 (tableOf n ps).2 := by
  unfold tableOf
  obtain ⟨c, h2, h3, h4, h5⟩ := tfix_clo (f := 2 * n * n + 1) (subs_ok (sub0_ok n) hx) (mosts_ok (nil_ok n) hx) (by rw [Nat.mul_assoc]; omega)
  refine ⟨h2, h3, fun {x} hn => ?_, fun {x y z} a b => ?_, fun {x y} a b => ?_, fun {x y z} a b => ?_, fun {x y} a => ?_, fun {x y} a => ?_, fun {x y} a => ?_, fun {x y} a => ?_⟩
  · exact has_iff.mpr (h4 _ (mem_subs.1 _ (List.mem_map.mpr ⟨x, mem_rgI.mpr hn, rfl⟩)))
  · exact has_iff.mpr (c.more _ (mem_moreOf.mpr (.inl ⟨y, has_iff.mp a, has_iff.mp b⟩)))
  · exact has_iff.mpr (c.more _ (mem_moreOf.mpr (.inr ⟨has_iff.mp a, has_iff.mp b⟩)))
  · exact has_iff.mpr (c.many _ (mem_manyOf.mpr (.inr ⟨y, has_iff.mp a, has_iff.mp b⟩)))
  · exact has_iff.mpr (c.many _ (mem_manyOf.mpr (.inl (has_iff.mp a))))
  · exact has_iff.mpr (h4 _ (mem_subs.2 _ _ a))
  · exact has_iff.mpr (h5 _ (mem_mosts.2.1 _ _ a))
  · exact has_iff.mpr (h5 _ (mem_mosts.2.2 _ _ a))
theorem mem_nsteps {s m : Tab} {f : List Int} : ∀ {zs g : List Int}, (∀ x ∈ g, x ∈ zs.foldl (nstep s m f) g) ∧ ∀ z ∈ zs, (f.any fun o => has s o z || has m z o) = true → z ∈ zs.foldl (nstep s m f) g
  | [], g => ⟨fun x h => h, fun z h => nomatch h⟩
  | a :: r, g => by
    obtain ⟨h1, h2⟩ := mem_nsteps (s := s) (m := m) (f := f) (zs := r) (g := nstep s m f g a)
    have e : ∀ x ∈ g, x ∈ nstep s m f g a := fun x hx => by
      unfold nstep
      split
      · exact mem_put.mpr (.inl hx)
      · exact hx
    refine ⟨fun x hx => h1 x (e x hx), fun z hz c => ?_⟩
    rcases List.mem_cons.mp hz with rfl | hz
    · refine h1 _ ?_
      unfold nstep
      rw [if_pos c]
      exact mem_put.mpr (.inr rfl)
    · exact h2 z hz c
theorem mem_askPuts : ∀ {xs : List Sen} {g : List Int}, (∀ x ∈ g, x ∈ xs.foldl askPut g) ∧ ∀ q x d v b p y, Sen.verb q x d v b p y ∈ xs → x ∈ g → y ∈ xs.foldl askPut g
  | [], g => ⟨fun x h => h, fun _ _ _ _ _ _ _ h => nomatch h⟩
  | a :: r, g => by
    obtain ⟨h1, h2⟩ := mem_askPuts (xs := r) (g := askPut g a)
    have e : ∀ x ∈ g, x ∈ askPut g a := fun x hx => by
      cases a with
      | verb q x1 d v b p y =>
        show x ∈ if x1 ∈ g then put g y else g
        by_cases c : x1 ∈ g
        · rw [if_pos c]; exact mem_put.mpr (.inl hx)
        · rw [if_neg c]; exact hx
      | _ => exact hx
    refine ⟨fun x hx => h1 x (e x hx), fun q x d v b p y hz hx => ?_⟩
    rcases List.mem_cons.mp hz with rfl | hz
    · refine h1 _ ?_
      show y ∈ if x ∈ g then put g y else g
      rw [if_pos hx]
      exact mem_put.mpr (.inr rfl)
    · exact h2 q x d v b p y hz (e x hx)
structure RClo (n : Nat) (s m : Tab) (asked : List Sen) (f : List Int) : Prop where
  near : ∀ z, Nn n z → (f.any fun o => has s o z || has m z o) = true → z ∈ f
  ask : ∀ q x d v b p y, Sen.verb q x d v b p y ∈ asked → x ∈ f → y ∈ f
theorem mem_rstep {n : Nat} {s m : Tab} {asked : List Sen} {f : List Int} : ∀ x ∈ f, x ∈ rstep n s m asked f := fun x hx => mem_askPuts.1 _ (mem_nsteps.1 x hx)
theorem rstep_clo {n : Nat} {s m : Tab} {asked : List Sen} {f : List Int} (hf : f.Nodup) (h : (rstep n s m asked f).length ≤ f.length) : RClo n s m asked f ∧ ∀ x ∈ rstep n s m asked f, x ∈ f := by
  have e := same_len_mem hf mem_rstep h
  exact ⟨⟨fun z hz c => e z (mem_askPuts.1 _ (mem_nsteps.2 z (mem_rgI.mpr hz) c)), fun q x d v b p y hm hx => e y (mem_askPuts.2 q x d v b p y hm (mem_nsteps.1 x hx))⟩, e⟩
theorem rfix_clo {n m0 : Nat} {s m : Tab} {asked : List Sen} (ha : ∀ x ∈ asked, x.ok n m0) : ∀ {k : Nat} {f : List Int}, IntOk n f → n < k + f.length → RClo n s m asked (rfix n s m asked k f) ∧ ∀ x ∈ f, x ∈ rfix n s m asked k f
  | 0, f, h, c => absurd c (by have := h.len; omega)
  | k + 1, f, h, c => by
    unfold rfix
    by_cases e : (rstep n s m asked f).length > f.length
    · rw [if_pos e]
      obtain ⟨h1, h2⟩ := rfix_clo (s := s) (m := m) ha (k := k) (rstep_ok (s := s) (m := m) h ha) (by omega)
      exact ⟨h1, fun x hx => h2 x (mem_rstep x hx)⟩
    · rw [if_neg e]
      obtain ⟨c1, c2⟩ := rstep_clo (n := n) (s := s) (m := m) (asked := asked) h.nd (by omega)
      have b := rstep_ok (s := s) (m := m) h ha
      have same : ∀ x, x ∈ rstep n s m asked f ↔ x ∈ f := fun x => ⟨c2 x, mem_rstep x⟩
      refine ⟨⟨fun z hz q => ?_, fun q x d v b p y hm hx => ?_⟩, mem_rstep⟩
      · refine (same z).mpr (c1.near z hz ?_)
        rw [List.any_eq_true] at q ⊢
        obtain ⟨o, ho, q⟩ := q
        exact ⟨o, c2 o ho, q⟩
      · exact (same y).mpr (c1.ask q x d v b p y hm (c2 x hx))
/-- what is required -/
structure Rq (n : Nat) (ps : List Sen) (s m : Tab) (r : List Int) : Prop where
  rg : ∀ {x}, x ∈ r → Nn n x
  found : ∀ {k z}, k ∈ statedKinds ps → z ∈ above s k n → z ∈ r
  sub : ∀ {x z}, x ∈ r → has s x z = true → z ∈ r
  most : ∀ {x z}, x ∈ r → has m z x = true → z ∈ r
  ask : ∀ {x d v b y}, Sen.verb true x d v b false y ∈ ps → x ∈ r → y ∈ r
theorem required_rq {n m : Nat} {ps : List Sen} (hx : ∀ x ∈ ps, x.ok n m) : Rq n ps (tableOf n ps).1 (tableOf n ps).2 (requiredNouns n ps) := by
  have tb := table_tb hx
  have ha : ∀ x ∈ ps.filter asks, x.ok n m := fun x h => hx x (List.mem_filter.mp h).1
  have h0 : IntOk n (found0 n (tableOf n ps).1 ps) := found0_ok
  obtain ⟨c, h2⟩ := rfix_clo (s := (tableOf n ps).1) (m := (tableOf n ps).2) ha (k := n + 1) h0 (by omega)
  have ok := rfix_ok (s := (tableOf n ps).1) (m := (tableOf n ps).2) ha (k := n + 1) h0
  have mem : ∀ {z}, z ∈ requiredNouns n ps ↔ z ∈ rfix n (tableOf n ps).1 (tableOf n ps).2 (ps.filter asks) (n + 1) (found0 n (tableOf n ps).1 ps) := fun {z} => by
    unfold requiredNouns
    rw [List.mem_filter, decide_eq_true_eq]
    exact ⟨fun h => h.2, fun h => ⟨mem_rgI.mpr (ok.rg z h), h⟩⟩
  refine ⟨fun {x} h => ok.rg x (mem.mp h), fun {k z} hk hz => mem.mpr (h2 z ?_), fun {x z} h e => ?_, fun {x z} h e => ?_, fun {x d v b y} hs h => ?_⟩
  · unfold found0
    exact mem_puts.mpr (.inr (List.mem_flatMap.mpr ⟨k, hk, hz⟩))
  · refine mem.mpr (c.near z (tb.so.rg _ (has_iff.mp e)).2 (List.any_eq_true.mpr ⟨x, mem.mp h, ?_⟩))
    rw [e]; rfl
  · refine mem.mpr (c.near z (tb.mo.rg _ (has_iff.mp e)).1 (List.any_eq_true.mpr ⟨x, mem.mp h, ?_⟩))
    rw [e, Bool.or_true]
  · exact mem.mpr (c.ask _ _ _ _ _ _ _ (List.mem_filter.mpr ⟨hs, rfl⟩) (mem.mp h))
theorem mem_above {s : Tab} {k : Kd} {n : Nat} {z : Int} : z ∈ above s k n ↔ Nn n z ∧ ∃ o ∈ nounsOf k, has s o z = true := by
  unfold above
  rw [List.mem_filter, mem_rgI, List.any_eq_true]
theorem above_one {s : Tab} {n : Nat} {x z : Int} : z ∈ above s (.one x) n ↔ Nn n z ∧ has s x z = true := by
  rw [mem_above]
  simp [nounsOf]
theorem mem_ks_one {n : Nat} {ps : List Sen} {x : Int} : Kd.one x ∈ requiredKinds n ps ↔ x ∈ requiredNouns n ps := by
  unfold requiredKinds
  rw [List.mem_append, List.mem_map, List.mem_filter]
  constructor
  · rintro (⟨y, hy, e⟩ | ⟨_, e⟩)
    · cases e; exact hy
    · cases e
  · exact fun h => .inl ⟨x, h, rfl⟩
theorem above_req {n m : Nat} {ps : List Sen} (hx : ∀ x ∈ ps, x.ok n m) {k : Kd} {z : Int} (hk : k ∈ requiredKinds n ps) (hz : z ∈ above (tableOf n ps).1 k n) : z ∈ requiredNouns n ps := by
  have rq := required_rq hx
  unfold requiredKinds at hk
  rcases List.mem_append.mp hk with h | h
  · obtain ⟨x, hx1, rfl⟩ := List.mem_map.mp h
    exact rq.sub hx1 (above_one.mp hz).2
  · exact rq.found (List.mem_filter.mp h).1 hz
/-- a kind's own nouns -/
def Kd.ok (n : Nat) (k : Kd) : Prop := ∀ o ∈ nounsOf k, Nn n o
theorem stated_ok {n m : Nat} {x : Sen} (h : x.ok n m) {k : Kd} (hk : k ∈ stated x) : k.ok n := by
  cases x with
  | some x y =>
    by_cases c : x = y
    · simp only [stated, if_pos c, List.mem_singleton] at hk; subst hk; intro o ho; simp [nounsOf] at ho; subst ho; exact h.1
    · simp only [stated, if_neg c, List.mem_singleton] at hk; subst hk; intro o ho; simp [nounsOf] at ho
      obtain ⟨h1, h2⟩ := h
      rcases ho with rfl | rfl <;> split <;> assumption
  | snot x y => simp only [stated, List.mem_singleton] at hk; subst hk; intro o ho; simp [nounsOf] at ho; subst ho; exact h.1
  | fewer x y => simp only [stated, List.mem_singleton] at hk; subst hk; intro o ho; simp [nounsOf] at ho; subst ho; exact h.2
  | self q x d v =>
    cases q with
    | true => simp [stated] at hk
    | false => simp only [stated, List.mem_singleton] at hk; subst hk; intro o ho; simp [nounsOf] at ho; subst ho; exact h.1
  | verb q x d v b p y =>
    cases q with
    | true => simp [stated] at hk
    | false =>
      cases p with
      | true => simp only [stated, List.mem_singleton] at hk; subst hk; intro o ho; simp [nounsOf] at ho; subst ho; exact h.1
      | false =>
        simp only [stated, List.mem_cons, List.not_mem_nil, or_false] at hk
        rcases hk with rfl | rfl
        · intro o ho; simp [nounsOf] at ho; subst ho; exact h.1
        · intro o ho; simp [nounsOf] at ho; subst ho; exact h.2.1
  | _ x y => simp [stated] at hk
theorem mem_statedKinds {ps : List Sen} {k : Kd} : k ∈ statedKinds ps ↔ ∃ x ∈ ps, k ∈ stated x := by
  unfold statedKinds
  rw [mem_puts, List.mem_flatMap]
  simp
theorem stated_ks {n m : Nat} {ps : List Sen} (hx : ∀ x ∈ ps, x.ok n m) {x : Sen} (h : x ∈ ps) {k : Kd} (hk : k ∈ stated x) : k ∈ requiredKinds n ps := by
  have rq := required_rq hx
  have tb := table_tb hx
  have hs : k ∈ statedKinds ps := mem_statedKinds.mpr ⟨x, h, hk⟩
  have ok := stated_ok (hx x h) hk
  cases e : isOne k with
  | true =>
    cases k with
    | one z =>
      have hz : Nn n z := ok z (by simp [nounsOf])
      exact mem_ks_one.mpr (rq.found hs (above_one.mpr ⟨hz, tb.refl hz⟩))
    | _ => cases e
  | false =>
    unfold requiredKinds
    exact List.mem_append.mpr (.inr (List.mem_filter.mpr ⟨hs, by rw [e]; rfl⟩))
theorem ks_nodup {n : Nat} {ps : List Sen} : (requiredKinds n ps).Nodup := by
  unfold requiredKinds
  rw [List.nodup_append]
  refine ⟨?_, ?_, ?_⟩
  · rw [List.Nodup, List.pairwise_map]
    exact ((nodup_rgI n).filter _).imp fun h e => h (by cases e; rfl)
  · exact (nodup_puts List.nodup_nil).filter _
  · intro a ha b hb e
    subst e
    obtain ⟨x, _, rfl⟩ := List.mem_map.mp ha
    exact absurd (List.mem_filter.mp hb).2 (by simp [isOne])
theorem ks_ok {n m : Nat} {ps : List Sen} (hx : ∀ x ∈ ps, x.ok n m) {k : Kd} (hk : k ∈ requiredKinds n ps) : k.ok n := by
  unfold requiredKinds at hk
  rcases List.mem_append.mp hk with h | h
  · obtain ⟨z, hz, rfl⟩ := List.mem_map.mp h
    intro o ho
    simp [nounsOf] at ho
    subst ho
    exact (required_rq hx).rg hz
  · obtain ⟨x, h1, h2⟩ := mem_statedKinds.mp (List.mem_filter.mp h).1
    exact stated_ok (hx x h1) h2
end Mi
namespace Mi
/-- the sum of what stands at the places of q -/
def psum (q : Nat → Bool) : Nat → List Int → Int
  | _, [] => 0
  | k, a :: r => (if q k then a else 0) + psum q (k + 1) r
theorem psum_eq {q : Nat → Bool} : ∀ (l : List Int) (k : Nat), ((l.zipIdx k).filterMap fun p => if q p.2 = true then Option.some p.1 else none).sum = psum q k l
  | [], k => rfl
  | a :: r, k => by
    rw [List.zipIdx_cons, List.filterMap_cons]
    have ih := psum_eq (q := q) r (k + 1)
    cases c : q k with
    | true =>
      simp only [psum, c, if_true]
      rw [List.sum_cons, ih]
    | false =>
      simp only [psum, c]
      simpa using ih
def inQ (n : Nat) (s : Tab) (ks : List Kd) (x : Int) (i : Nat) : Bool := decide (x ∈ above s (ks.getD (i / 3) (.one 0)) n)
theorem countIn_eq {n : Nat} {s : Tab} {ks : List Kd} {sz : List Int} {x : Int} : countIn n s ks sz x = psum (inQ n s ks x) 0 sz := by
  rw [← psum_eq]
  unfold countIn inQ
  simp only [decide_eq_true_eq]
theorem psum_set {q : Nat → Bool} {v : Int} : ∀ {l : List Int} {i k : Nat} {u : Int}, l[i]? = some u → psum q k (l.set i v) = psum q k l + if q (k + i) then v - u else 0
  | [], i, k, u, h => by simp at h
  | a :: r, 0, k, u, h => by
    simp at h
    subst h
    simp only [List.set_cons_zero, psum, Nat.add_zero]
    split <;> omega
  | a :: r, i + 1, k, u, h => by
    simp only [List.set_cons_succ, psum]
    rw [psum_set (l := r) (i := i) (k := k + 1) (u := u) (by simpa using h)]
    rw [show k + 1 + i = k + (i + 1) by omega]
    omega
theorem psum_out {q : Nat → Bool} {v : Int} {l : List Int} {i : Nat} (h : q i = false) : psum q 0 (l.set i v) = psum q 0 l := by
  cases e : l[i]? with
  | none =>
    rw [List.set_eq_of_length_le (List.getElem?_eq_none_iff.mp e)]
  | some u =>
    rw [psum_set e, Nat.zero_add, h]
    simp
theorem psum_nn {q : Nat → Bool} : ∀ {l : List Int} {k : Nat}, (∀ v ∈ l, 0 ≤ v) → 0 ≤ psum q k l
  | [], _, _ => Int.le_refl _
  | a :: r, k, h => by
    have h1 := h a (by simp)
    have h2 := psum_nn (q := q) (l := r) (k := k + 1) fun v hv => h v (by simp [hv])
    simp only [psum]
    split <;> omega
theorem psum_zero {q : Nat → Bool} : ∀ {l : List Int} {k : Nat}, (∀ i, i < l.length → q (k + i) = false) → psum q k l = 0
  | [], _, _ => rfl
  | a :: r, k, h => by
    have h1 := h 0 (by simp)
    have h2 := psum_zero (q := q) (l := r) (k := k + 1) fun i hi => by
      have := h (i + 1) (by simpa using hi)
      rwa [show k + (i + 1) = k + 1 + i by omega] at this
    simp only [psum, h2]
    rw [Nat.add_zero] at h1
    simp [h1]
theorem psum_congr {q q' : Nat → Bool} {l : List Int} {k : Nat} (h : ∀ i, q i = q' i) : psum q k l = psum q' k l := by rw [show q = q' from funext h]
def setL (size : Int) (sz : List Int) (cs : List (Nat × Int)) : List Int := cs.foldl (fun sz c => sz.set (3 * c.1) (size - c.2)) sz
theorem setL_out {q : Nat → Bool} {size : Int} : ∀ {cs : List (Nat × Int)} {sz : List Int}, (∀ c ∈ cs, q (3 * c.1) = false) → psum q 0 (setL size sz cs) = psum q 0 sz
  | [], _, _ => rfl
  | c :: r, sz, h => by
    show psum q 0 (setL size (sz.set (3 * c.1) (size - c.2)) r) = _
    rw [setL_out fun d hd => h d (by simp [hd]), psum_out (h c (by simp))]
theorem setL_get {size : Int} {a : Nat} : ∀ {cs : List (Nat × Int)} {sz : List Int}, (∀ c ∈ cs, c.1 ≠ a) → (setL size sz cs)[3 * a]? = sz[3 * a]?
  | [], _, _ => rfl
  | c :: r, sz, h => by
    show (setL size (sz.set (3 * c.1) (size - c.2)) r)[3 * a]? = _
    rw [setL_get fun d hd => h d (by simp [hd]), List.getElem?_set_ne]
    have := h c (by simp)
    omega
theorem setL_nn {size : Int} : ∀ {cs : List (Nat × Int)} {sz : List Int}, (∀ v ∈ sz, 0 ≤ v) → (∀ c ∈ cs, c.2 ≤ size) → ∀ v ∈ setL size sz cs, 0 ≤ v
  | [], _, h, _ => h
  | c :: r, sz, h, g => by
    refine setL_nn (cs := r) (sz := sz.set (3 * c.1) (size - c.2)) (fun v hv => ?_) fun d hd => g d (by simp [hd])
    rcases List.mem_or_eq_of_mem_set hv with h1 | h1
    · exact h v h1
    · have := g c (by simp)
      omega
theorem setL_in {q : Nat → Bool} {size : Int} {cs : List (Nat × Int)} {sz : List Int} {c : Nat × Int} (hc : c ∈ cs) (ho : ∀ d ∈ cs, d.1 ≠ c.1 → q (3 * d.1) = false) (nd : (cs.map (·.1)).Nodup) (hz : sz[3 * c.1]? = some 0) (hq : q (3 * c.1) = true) :
    psum q 0 (setL size sz cs) = psum q 0 sz + (size - c.2) := by
  obtain ⟨l1, l2, rfl⟩ := List.append_of_mem hc
  rw [List.map_append, List.map_cons, List.nodup_append] at nd
  obtain ⟨n1, n2, n3⟩ := nd
  rw [List.nodup_cons] at n2
  have d1 : ∀ d ∈ l1, d.1 ≠ c.1 := fun d hd => n3 d.1 (List.mem_map.mpr ⟨d, hd, rfl⟩) c.1 (by simp)
  have d2 : ∀ d ∈ l2, d.1 ≠ c.1 := fun d hd e => n2.1 (e ▸ List.mem_map.mpr ⟨d, hd, rfl⟩)
  have e : setL size sz (l1 ++ c :: l2) = setL size ((setL size sz l1).set (3 * c.1) (size - c.2)) l2 := by
    unfold setL
    rw [List.foldl_append]
    rfl
  rw [e, setL_out fun d hd => ho d (by simp [hd]) (d2 d hd), psum_set (u := 0) (by rw [setL_get d1]; exact hz), Nat.zero_add, hq, setL_out fun d hd => ho d (by simp [hd]) (d1 d hd)]
  simp
theorem filt_le {α : Type} {p q : α → Bool} : ∀ {l : List α}, (∀ x ∈ l, p x = true → q x = true) → (l.filter p).length ≤ (l.filter q).length
  | [], _ => Nat.le_refl _
  | a :: r, h => by
    have ih := filt_le (p := p) (q := q) (l := r) fun x hx => h x (by simp [hx])
    have ha := h a (by simp)
    rw [List.filter_cons, List.filter_cons]
    cases e : p a with
    | true => rw [ha e]; simp only [if_true, List.length_cons]; omega
    | false =>
      cases q a with
      | true => simp only [if_true, List.length_cons]; simp; omega
      | false => simpa using ih
theorem filt_eq {α : Type} {p q : α → Bool} : ∀ {l : List α}, (∀ x ∈ l, p x = true → q x = true) → (l.filter q).length ≤ (l.filter p).length → ∀ x ∈ l, q x = true → p x = true
  | [], _, _ => fun x hx => nomatch hx
  | a :: r, h, g => by
    have hr : ∀ x ∈ r, p x = true → q x = true := fun x hx => h x (by simp [hx])
    have ha := h a (by simp)
    have le := filt_le hr
    rw [List.filter_cons, List.filter_cons] at g
    intro x hx hq
    cases e : p a with
    | true =>
      rw [e, ha e] at g
      simp only [if_true, List.length_cons] at g
      rcases List.mem_cons.mp hx with rfl | hx
      · exact e
      · exact filt_eq hr (by omega) x hx hq
    | false =>
      cases e2 : q a with
      | true =>
        rw [e, e2] at g
        simp at g
        omega
      | false =>
        rw [e, e2] at g
        rcases List.mem_cons.mp hx with rfl | hx
        · rw [hq] at e2; cases e2
        · exact filt_eq hr (by simpa using g) x hx hq
/-- the kinds fit the tables -/
structure Ks (n : Nat) (s m : Tab) (ks : List Kd) : Prop where
  nd : ks.Nodup
  rg : ∀ {x}, Kd.one x ∈ ks → Nn n x
  sub : ∀ {x z}, Kd.one x ∈ ks → has s x z = true → Kd.one z ∈ ks
  subL : ∀ {x z}, Kd.one x ∈ ks → has m z x = true → Kd.one z ∈ ks
section
variable {n : Nat} {ps : List Sen} {s m : Tab} {ks : List Kd}
theorem lev_mono (tb : Tb n ps s m) {x y : Int} (h : has m x y = true) : levelOf m (ones ks) y ≤ levelOf m (ones ks) x := by
  unfold levelOf
  have := filt_le (p := fun o => has m y o) (q := fun o => has m x o) (l := ones ks) fun o _ e => tb.mtrans h e
  omega
theorem lev_back (tb : Tb n ps s m) {x y : Int} (h : has m x y = true) (e : levelOf m (ones ks) x ≤ levelOf m (ones ks) y) : ∀ o, Kd.one o ∈ ks → has m x o = true → has m y o = true := fun o ho hx => by
  unfold levelOf at e
  exact filt_eq (p := fun o => has m y o) (q := fun o => has m x o) (l := ones ks) (fun o _ e => tb.mtrans h e) (by omega) o (mem_ones.mpr ho) hx
theorem lev_eqv (tb : Tb n ps s m) {x z : Int} (hz : Kd.one z ∈ ks) (hn : Nn n z) (h : has s x z = true) (e : levelOf m (ones ks) z ≤ levelOf m (ones ks) x) : has s z x = true :=
  tb.eqv h (lev_back tb (tb.ms h) e z hz (tb.ms (tb.refl hn)))
theorem plain_iff {x : Int} : isPlain s (.one x) = true ↔ ∀ l, 0 ≤ l → l < x → has s l x = true → has s x l = true → False := by
  show (!((rgI x.toNat).any fun l => has s l x && has s x l)) = true ↔ _
  rw [Bool.not_eq_true', List.any_eq_false]
  constructor
  · intro h l h0 h1 a b
    have := h l (mem_rgI.mpr ⟨h0, by omega⟩)
    rw [a, b] at this
    exact this rfl
  · intro h l hl
    have hn := mem_rgI.mp hl
    unfold Nn at hn
    intro e
    rw [Bool.and_eq_true] at e
    exact h l hn.1 (by omega) e.1 e.2
/-- the least of the same nouns -/
theorem rep (tb : Tb n ps s m) (hk : Ks n s m ks) : ∀ (f : Nat) {x : Int}, x.toNat < f → Kd.one x ∈ ks → ∃ x0, Kd.one x0 ∈ ks ∧ isPlain s (.one x0) = true ∧ has s x x0 = true ∧ has s x0 x = true
  | 0, x, h, _ => absurd h (by omega)
  | f + 1, x, h, hx => by
    by_cases c : isPlain s (.one x) = true
    · exact ⟨x, hx, c, tb.refl (hk.rg hx), tb.refl (hk.rg hx)⟩
    · have hn := hk.rg hx
      rw [plain_iff] at c
      have : ∃ l, 0 ≤ l ∧ l < x ∧ has s l x = true ∧ has s x l = true := Classical.byContradiction fun g => c fun l h0 h1 a b => g ⟨l, h0, h1, a, b⟩
      obtain ⟨l, h0, h1, a, b⟩ := this
      obtain ⟨x0, g1, g2, g3, g4⟩ := rep tb hk f (x := l) (by omega) (hk.sub hx b)
      exact ⟨x0, g1, g2, tb.trans b g3, tb.trans g4 a⟩
theorem plain_uniq (hk : Ks n s m ks) {x y : Int} (hx : Kd.one x ∈ ks) (hy : Kd.one y ∈ ks) (px : isPlain s (.one x) = true) (py : isPlain s (.one y) = true) (a : has s x y = true) (b : has s y x = true) : x = y := by
  have h1 := (hk.rg hx).1
  have h2 := (hk.rg hy).1
  rcases Int.lt_trichotomy x y with h | h | h
  · exact (plain_iff.mp py x h1 h a b).elim
  · exact h
  · exact (plain_iff.mp px y h2 h b a).elim
theorem nodup_at {α : Type} {l : List α} (nd : l.Nodup) {i j : Nat} {x : α} (h1 : l[i]? = some x) (h2 : l[j]? = some x) : i = j := by
  obtain ⟨a, b⟩ := List.getElem?_eq_some_iff.mp h1
  obtain ⟨c, d⟩ := List.getElem?_eq_some_iff.mp h2
  have h := List.pairwise_iff_getElem.mp nd
  rcases Nat.lt_trichotomy i j with e | e | e
  · exact absurd (b.trans d.symm) (h i j a c e)
  · exact e
  · exact absurd (d.trans b.symm) (h j i c a e)
/-- the invariant: what the levels done say -/
structure LI (n : Nat) (s m : Tab) (ks : List Kd) (ls : List Int) (st : Int × List Int) : Prop where
  len : st.2.length = 3 * ks.length
  nn : ∀ v ∈ st.2, 0 ≤ v
  s0 : 0 ≤ st.1
  op : ∀ a x, ks[a]? = some (.one x) → isPlain s (.one x) = true → levelOf m (ones ks) x ∈ ls → st.2[3 * a]? = some 0
  ord : ∀ x, Kd.one x ∈ ks → levelOf m (ones ks) x ∉ ls → ∀ l ∈ ls, levelOf m (ones ks) x < l
  dn : ∀ x, Kd.one x ∈ ks → levelOf m (ones ks) x ∉ ls → 1 ≤ countIn n s ks st.2 x ∧ countIn n s ks st.2 x ≤ st.1
  eq : ∀ x y, Kd.one x ∈ ks → Kd.one y ∈ ks → levelOf m (ones ks) x ∉ ls → levelOf m (ones ks) x = levelOf m (ones ks) y → countIn n s ks st.2 x = countIn n s ks st.2 y
  lt : ∀ x y, Kd.one x ∈ ks → Kd.one y ∈ ks → levelOf m (ones ks) y ∉ ls → levelOf m (ones ks) x < levelOf m (ones ks) y → countIn n s ks st.2 x < countIn n s ks st.2 y
theorem above_same (tb : Tb n ps s m) {x y : Int} (hx : Nn n x) (hy : Nn n y) (a : has s x y = true) (b : has s y x = true) {k : Kd} : x ∈ above s k n ↔ y ∈ above s k n := by
  rw [mem_above, mem_above]
  constructor
  · rintro ⟨_, o, ho, h⟩; exact ⟨hy, o, ho, tb.trans h a⟩
  · rintro ⟨_, o, ho, h⟩; exact ⟨hx, o, ho, tb.trans h b⟩
theorem LI.step (tb : Tb n ps s m) (hk : Ks n s m ks) {lv : Int} {ls : List Int} {st : Int × List Int} (so : (lv :: ls).Pairwise (· < ·)) (I : LI n s m ks (lv :: ls) st) : LI n s m ks ls (level n s m ks (ones ks) st lv) := by
  rw [List.pairwise_cons] at so
  have hlen := level_len (n := n) (s := s) (m := m) (ks := ks) (req := ones ks) (st := st) (lv := lv)
  let cs : List (Nat × Int) := (openAt s m (ones ks) ks lv).map fun a => (a, countIn n s ks st.2 (nounOf (ks.getD a (.one 0))))
  let size : Int := 1 + maxOf st.1 (cs.map (·.2))
  have e : level n s m ks (ones ks) st lv = (size, setL size st.2 cs) := rfl
  have hs1 : st.1 < size := by
    have := maxOf_le (cs.map (·.2)) st.1 st.1 (by simp)
    show st.1 < 1 + _
    omega
  have hs2 : ∀ c ∈ cs, c.2 < size := fun c hc => by
    have := maxOf_le (cs.map (·.2)) st.1 c.2 (List.mem_cons_of_mem _ (List.mem_map.mpr ⟨c, hc, rfl⟩))
    show c.2 < 1 + _
    omega
  have hcs : ∀ c ∈ cs, ∃ x, ks[c.1]? = some (.one x) ∧ isPlain s (.one x) = true ∧ levelOf m (ones ks) x = lv ∧ c.2 = countIn n s ks st.2 x := fun c hc => by
    obtain ⟨a, ha, rfl⟩ := List.mem_map.mp hc
    obtain ⟨k, h1, h2, h3⟩ := mem_openAt.mp ha
    obtain ⟨x, rfl⟩ := plain_one h2
    refine ⟨x, h1, h2, h3, ?_⟩
    show countIn n s ks st.2 (nounOf (ks.getD a (.one 0))) = _
    rw [List.getD_eq_getElem?_getD, h1]
    rfl
  have nd : (cs.map (·.1)).Nodup := by
    show (List.map _ (List.map _ _)).Nodup
    rw [List.map_map]
    have : ((fun x : Nat × Int => x.1) ∘ fun a => (a, countIn n s ks st.2 (nounOf (ks.getD a (.one 0))))) = id := rfl
    rw [this, List.map_id]
    exact openAt_nodup
  have q3 : ∀ {c : Nat × Int} {x y : Int}, ks[c.1]? = some (.one x) → inQ n s ks y (3 * c.1) = decide (y ∈ above s (.one x) n) := fun {c x y} h => by
    unfold inQ
    rw [Nat.mul_div_cancel_left _ (by omega), List.getD_eq_getElem?_getD, h]
    rfl
  have memk : ∀ {i : Nat} {k : Kd}, ks[i]? = some k → k ∈ ks := fun h => List.mem_of_getElem? h
  -- below
  have F1 : ∀ y, levelOf m (ones ks) y < lv → countIn n s ks (setL size st.2 cs) y = countIn n s ks st.2 y := fun y hy => by
    rw [countIn_eq, countIn_eq]
    refine setL_out fun c hc => ?_
    obtain ⟨x, h1, h2, h3, _⟩ := hcs c hc
    rw [q3 h1, decide_eq_false_iff_not, above_one]
    rintro ⟨_, h⟩
    have := lev_mono (ks := ks) tb (tb.ms h)
    omega
  -- the level
  have F2 : ∀ y, Kd.one y ∈ ks → levelOf m (ones ks) y = lv → countIn n s ks (setL size st.2 cs) y = size := fun y hy hl => by
    obtain ⟨x0, g1, g2, g3, g4⟩ := rep tb hk (y.toNat + 1) (by omega) hy
    have hl0 : levelOf m (ones ks) x0 = lv := by
      have h1 := lev_mono (ks := ks) tb (tb.ms g3)
      have h2 := lev_mono (ks := ks) tb (tb.ms g4)
      omega
    obtain ⟨a0, ha0⟩ := List.mem_iff_getElem?.mp g1
    have hc0 : (a0, countIn n s ks st.2 x0) ∈ cs := by
      refine List.mem_map.mpr ⟨a0, mem_openAt.mpr ⟨_, ha0, g2, hl0⟩, ?_⟩
      rw [List.getD_eq_getElem?_getD, ha0]
      rfl
    have same : countIn n s ks st.2 x0 = countIn n s ks st.2 y := by
      rw [countIn_eq, countIn_eq]
      refine psum_congr fun i => ?_
      unfold inQ
      rw [decide_eq_decide]
      exact above_same tb (hk.rg g1) (hk.rg hy) g4 g3
    have := setL_in (q := inQ n s ks y) (size := size) (sz := st.2) hc0 (fun c hc hne => ?_) nd (I.op a0 x0 ha0 g2 (by rw [hl0]; simp)) (by rw [q3 ha0, decide_eq_true_eq, above_one]; exact ⟨hk.rg hy, g4⟩)
    · rw [countIn_eq, this, same, countIn_eq]
      omega
    · obtain ⟨x, h1, h2, h3, _⟩ := hcs c hc
      rw [q3 h1, decide_eq_false_iff_not, above_one]
      rintro ⟨hn, h⟩
      have back := lev_eqv tb hy hn h (by omega)
      have : x = x0 := plain_uniq hk (memk h1) g1 h2 g2 (tb.trans h g3) (tb.trans g4 back)
      subst this
      exact hne (nodup_at hk.nd h1 ha0)
  have cases3 : ∀ y, Kd.one y ∈ ks → levelOf m (ones ks) y ∉ ls → levelOf m (ones ks) y = lv ∨ (levelOf m (ones ks) y ∉ lv :: ls ∧ levelOf m (ones ks) y < lv) := fun y hy hn => by
    by_cases c : levelOf m (ones ks) y = lv
    · exact .inl c
    · have : levelOf m (ones ks) y ∉ lv :: ls := fun h => (List.mem_cons.mp h).elim c hn
      exact .inr ⟨this, I.ord y hy this lv (by simp)⟩
  rw [e]
  have i0 := I.s0
  refine ⟨?_, ?_, ?_, ?_, ?_, ?_, ?_, ?_⟩
  · rw [e] at hlen
    exact hlen.trans I.len
  · exact setL_nn I.nn fun c hc => Int.le_of_lt (hs2 c hc)
  · show 0 ≤ size
    omega
  · intro a x ha hp hl
    refine (setL_get fun c hc => ?_).trans (I.op a x ha hp (List.mem_cons_of_mem _ hl))
    rintro rfl
    obtain ⟨x', h1, h2, h3, _⟩ := hcs c hc
    rw [ha] at h1
    cases h1
    have := so.1 _ hl
    omega
  · intro x hx hn l hl
    rcases cases3 x hx hn with h | ⟨h, _⟩
    · rw [h]; exact so.1 l hl
    · exact I.ord x hx h l (List.mem_cons_of_mem _ hl)
  · intro x hx hn
    show 1 ≤ countIn n s ks (setL size st.2 cs) x ∧ countIn n s ks (setL size st.2 cs) x ≤ size
    rcases cases3 x hx hn with h | ⟨h, h'⟩
    · rw [F2 x hx h]; omega
    · rw [F1 x h']
      have := I.dn x hx h
      omega
  · intro x y hx hy hn he
    show countIn n s ks (setL size st.2 cs) x = countIn n s ks (setL size st.2 cs) y
    rcases cases3 x hx hn with h | ⟨h, h'⟩
    · rw [F2 x hx h, F2 y hy (he ▸ h)]
    · rw [F1 x h', F1 y (he ▸ h')]
      exact I.eq x y hx hy h he
  · intro x y hx hy hn he
    show countIn n s ks (setL size st.2 cs) x < countIn n s ks (setL size st.2 cs) y
    rcases cases3 y hy hn with h | ⟨h, h'⟩
    · have hx' : levelOf m (ones ks) x ∉ lv :: ls := fun hm => by
        rcases List.mem_cons.mp hm with q | q
        · omega
        · have := so.1 _ q
          omega
      rw [F2 y hy h, F1 x (by omega)]
      have := I.dn x hx hx'
      omega
    · rw [F1 y h', F1 x (by omega)]
      exact I.lt x y hx hy h he
theorem LI.all (tb : Tb n ps s m) (hk : Ks n s m ks) : ∀ {ls : List Int} {st : Int × List Int}, ls.Pairwise (· < ·) → LI n s m ks ls st → LI n s m ks [] (ls.foldl (level n s m ks (ones ks)) st)
  | [], _, _, I => I
  | l :: ls, st, so, I => LI.all tb hk (ls := ls) (st := level n s m ks (ones ks) st l) (List.pairwise_cons.mp so).2 (I.step tb hk so)
theorem sizes0_at : ∀ {ks : List Kd} {a : Nat} {k : Kd}, ks[a]? = some k → (sizes0 s ks)[3 * a]? = some (if isPlain s k then 0 else 1)
  | [], a, k, h => by simp at h
  | k :: r, 0, k', h => by simp at h; subst h; rfl
  | k :: r, a + 1, k', h => by
    have ih := sizes0_at (ks := r) (a := a) (k := k') (by simpa using h)
    show ((_ :: _ :: _ :: sizes0 s r) : List Int)[3 * (a + 1)]? = _
    rw [show 3 * (a + 1) = 3 * a + 1 + 1 + 1 by omega]
    simpa using ih
theorem sizes0_nn : ∀ v ∈ sizes0 s ks, (0 : Int) ≤ v := fun v hv => by
  unfold sizes0 at hv
  obtain ⟨k, _, h⟩ := List.mem_flatMap.mp hv
  simp at h
  rcases h with rfl | rfl
  · split <;> omega
  · omega
theorem LI.init : LI n s m ks (levels m (ones ks)) (0, sizes0 s ks) := by
  have all : ∀ x, Kd.one x ∈ ks → levelOf m (ones ks) x ∈ levels m (ones ks) := fun x hx => mem_levels.mpr (List.mem_map.mpr ⟨x, mem_ones.mpr hx, rfl⟩)
  refine ⟨sizes0_len s ks, sizes0_nn, Int.le_refl _, fun a x ha hp _ => ?_, fun x hx hn => absurd (all x hx) hn, fun x hx hn => absurd (all x hx) hn, fun x y hx _ hn => absurd (all x hx) hn, fun x y _ hy hn => absurd (all y hy) hn⟩
  rw [show (0, sizes0 s ks).2 = sizes0 s ks from rfl, sizes0_at ha, hp]
  rfl
theorem sizes_ok (tb : Tb n ps s m) (hk : Ks n s m ks) : LI n s m ks [] ((levels m (ones ks)).foldl (level n s m ks (ones ks)) (0, sizes0 s ks)) := LI.all tb hk levels_sorted LI.init
theorem size_nn (tb : Tb n ps s m) (hk : Ks n s m ks) (x : Int) : 0 ≤ countIn n s ks (sizesOf n s m ks) x := by
  rw [countIn_eq]
  exact psum_nn (sizes_ok tb hk).nn
theorem size_zero (ha : ∀ k ∈ ks, ∀ z ∈ above s k n, Kd.one z ∈ ks) {x : Int} (hx : Kd.one x ∉ ks) : countIn n s ks (sizesOf n s m ks) x = 0 := by
  rw [countIn_eq]
  refine psum_zero fun i hi => ?_
  rw [sizesOf_len] at hi
  unfold inQ
  rw [decide_eq_false_iff_not]
  intro h
  have hl : (0 + i) / 3 < ks.length := by omega
  rw [List.getD_eq_getElem?_getD, List.getElem?_eq_getElem hl] at h
  exact hx (ha _ (List.getElem_mem hl) _ h)
/-- at least as many -/
theorem size_le (tb : Tb n ps s m) (hk : Ks n s m ks) (ha : ∀ k ∈ ks, ∀ z ∈ above s k n, Kd.one z ∈ ks) {x y : Int} (h : has m x y = true) : countIn n s ks (sizesOf n s m ks) y ≤ countIn n s ks (sizesOf n s m ks) x := by
  by_cases hy : Kd.one y ∈ ks
  · have hx := hk.subL hy h
    have le := lev_mono (ks := ks) tb h
    have I := sizes_ok tb hk
    rcases Int.lt_or_eq_of_le le with c | c
    · exact Int.le_of_lt (I.lt y x hy hx (by simp) c)
    · exact Int.le_of_eq (I.eq y x hy hx (by simp) c)
  · rw [size_zero ha hy]
    exact size_nn tb hk x
/-- fewer -/
theorem size_lt (tb : Tb n ps s m) (hk : Ks n s m ks) (ha : ∀ k ∈ ks, ∀ z ∈ above s k n, Kd.one z ∈ ks) {x y : Int} (hy : Kd.one y ∈ ks) (h : has m y x = true) (hn : has m x y = false) : countIn n s ks (sizesOf n s m ks) x < countIn n s ks (sizesOf n s m ks) y := by
  have I := sizes_ok tb hk
  by_cases hx : Kd.one x ∈ ks
  · refine I.lt x y hx hy (by simp) ?_
    rcases Int.lt_or_le (levelOf m (ones ks) x) (levelOf m (ones ks) y) with c | c
    · exact c
    · have := lev_back (ks := ks) tb h c y hy (tb.ms (tb.refl (hk.rg hy)))
      rw [this] at hn
      cases hn
  · rw [size_zero ha hx]
    have := (I.dn y hy (by simp)).1
    exact Int.lt_of_lt_of_le (by omega) this
end
end Mi
namespace AL
open Mi
theorem fmap_congr {α β : Type} {f g : α → Option β} : ∀ {l : List α}, (∀ x ∈ l, f x = g x) → l.filterMap f = l.filterMap g
  | [], _ => rfl
  | a :: r, h => by
    rw [List.filterMap_cons, List.filterMap_cons, h a (by simp), fmap_congr fun x hx => h x (by simp [hx])]
theorem filt_fm {α β : Type} {p : α → Bool} {f : α → β} : ∀ {l : List α}, (l.filter p).map f = l.filterMap fun x => if p x = true then Option.some (f x) else none
  | [] => rfl
  | a :: r => by
    rw [List.filter_cons, List.filterMap_cons, ← filt_fm (l := r)]
    cases p a <;> rfl
theorem zip_range {α : Type} (l : List α) (d : α) : l.zipIdx = (List.range l.length).map fun i => (l.getD i d, i) := by
  apply List.ext_getElem
  · simp
  · intro i h1 h2
    simp at h1
    rw [List.getElem_zipIdx, List.getElem_map, List.getElem_range, List.getD_eq_getElem?_getD, List.getElem?_eq_getElem h1, Nat.zero_add]
    rfl
theorem psum_range {q : Nat → Bool} {l : List Int} : psum q 0 l = ((List.range l.length).filterMap fun i => if q i = true then Option.some (l.getD i 0) else none).sum := by
  rw [← psum_eq, zip_range l 0, List.filterMap_map]
  rfl
section
variable {n m : Nat} {ps : List Sen} {s mt : Tab} {ks : List Kd} {sz : List Int} {M : Mi.Model}
/-- the kind of a group -/
def kdAt (ks : List Kd) (g : Nat) : Kd := ks.getD (g / 3) (.one 0)
/-- what the model is -/
structure MoIs (n m : Nat) (ps : List Sen) (s : Tab) (ks : List Kd) (sz : List Int) (M : Mi.Model) : Prop where
  groups : M.groups = sz.zipIdx.map fun p => (p.1, above s (kdAt ks p.2) n)
  verbs : M.verbs = (rgI m).map fun v => (List.range sz.length).map fun g => doneTo (ks.map fun h => forced n ps s v (kdAt ks g) h) g
  selves : M.selves = (rgI m).map fun v => (List.range sz.length).filterMap fun (g : Nat) => if forcedSelf n ps s v (kdAt ks g) = .yes then Option.some (g : Int) else none
  len : sz.length = 3 * ks.length
theorem mo_is : MoIs n m ps (tableOf n ps).1 (requiredKinds n ps) (sizesOf n (tableOf n ps).1 (tableOf n ps).2 (requiredKinds n ps)) (modelOf n m ps) := ⟨rfl, rfl, rfl, sizesOf_len ..⟩
section
variable (mo : MoIs n m ps s ks sz M)
include mo
theorem mo_len : M.groups.length = 3 * ks.length := by
  rw [mo.groups, List.length_map, List.length_zipIdx, mo.len]
theorem mo_grp {g : Nat} (h : g < 3 * ks.length) : grp M (g : Int) = (sz.getD g 0, above s (kdAt ks g) n) := by
  have h2 : g < sz.length := by rw [mo.len]; exact h
  unfold grp
  rw [mo.groups, Int.toNat_natCast, List.getD_eq_getElem?_getD, List.getElem?_map, List.getElem?_zipIdx, List.getD_eq_getElem?_getD, List.getElem?_eq_getElem h2]
  simp only [Option.map_some, Option.getD_some, Nat.zero_add]
theorem mem_having {x g : Int} : g ∈ having M x ↔ ∃ k : Nat, g = (k : Int) ∧ k < 3 * ks.length ∧ x ∈ above s (kdAt ks k) n := by
  unfold having
  rw [List.mem_filter, mo_len mo, decide_eq_true_eq]
  constructor
  · rintro ⟨h1, h2⟩
    obtain ⟨k, rfl, hk⟩ := rg_nat h1
    rw [mo_grp mo hk] at h2
    exact ⟨k, rfl, hk, h2⟩
  · rintro ⟨k, rfl, hk, h2⟩
    refine ⟨mem_rgI.mpr ⟨by omega, by omega⟩, ?_⟩
    rw [mo_grp mo hk]
    exact h2
theorem size_eq (x : Int) : sizeOf M x = countIn n s ks sz x := by
  rw [countIn_eq, psum_range]
  unfold sizeOf having
  rw [filt_fm, mo_len mo, mo.len]
  unfold rgI
  rw [List.filterMap_map]
  congr 1
  apply fmap_congr
  intro i hi
  have h := List.mem_range.mp hi
  show (if decide (x ∈ (grp M (i : Int)).2) = true then Option.some (grp M (i : Int)).1 else none) = _
  rw [mo_grp mo h]
  rfl
omit mo in
theorem rgI_at {k i : Nat} (h : i < k) : (rgI k)[i]? = Option.some (i : Int) := by
  unfold rgI
  rw [List.getElem?_map, List.getElem?_range h]
  rfl
theorem mo_verb {v g : Nat} (hv : v < m) (hg : g < 3 * ks.length) : verbAt M (v : Int) (g : Int) = doneTo (ks.map fun h => forced n ps s (v : Int) (kdAt ks g) h) g := by
  unfold verbAt
  rw [mo.verbs, Int.toNat_natCast, Int.toNat_natCast, List.getD_eq_getElem?_getD (l := (rgI m).map _), List.getElem?_map, rgI_at hv]
  simp only [Option.map_some, Option.getD_some]
  rw [List.getD_eq_getElem?_getD, List.getElem?_map, List.getElem?_range (by rw [mo.len]; exact hg)]
  rfl
theorem mo_self {v : Nat} (hv : v < m) {g : Nat} (hg : g < 3 * ks.length) : (g : Int) ∈ selfAt M (v : Int) ↔ forcedSelf n ps s (v : Int) (kdAt ks g) = .yes := by
  unfold selfAt
  rw [mo.selves, Int.toNat_natCast, List.getD_eq_getElem?_getD, List.getElem?_map, rgI_at hv]
  simp only [Option.map_some, Option.getD_some]
  rw [List.mem_filterMap]
  constructor
  · rintro ⟨k, hk, h⟩
    by_cases c : forcedSelf n ps s (v : Int) (kdAt ks k) = .yes
    · rw [if_pos c] at h
      have : k = g := by have := Option.some.inj h; omega
      subst this
      exact c
    · rw [if_neg c] at h; cases h
  · intro c
    exact ⟨g, List.mem_range.mpr (by rw [mo.len]; exact hg), by rw [if_pos c]⟩
end
theorem mem_doneTo {ws : List Wd} {g o : Nat} : (o : Int) ∈ doneTo ws g ↔ ∃ w, ws[o / 3]? = Option.some w ∧ (w = .yes ∨ (w = .free ∧ o % 3 = (g + 1) % 3)) := by
  unfold doneTo
  rw [List.mem_flatMap]
  constructor
  · rintro ⟨⟨w, j⟩, h1, h2⟩
    have h1 := List.mem_zipIdx_iff_getElem?.mp h1
    obtain ⟨l, hl, h3⟩ := List.mem_filterMap.mp h2
    have hl3 : l < 3 := by
      simp at hl
      omega
    by_cases c : w = .yes ∨ (w = .free ∧ l = (g + 1) % 3)
    · rw [if_pos c] at h3
      have e : 3 * j + l = o := by have := Option.some.inj h3; omega
      subst e
      have e1 : (3 * j + l) / 3 = j := by omega
      have e2 : (3 * j + l) % 3 = l := by omega
      rw [e1, e2]
      exact ⟨w, h1, c⟩
    · rw [if_neg c] at h3; cases h3
  · rintro ⟨w, h1, h2⟩
    refine ⟨(w, o / 3), List.mem_zipIdx_iff_getElem?.mpr h1, List.mem_filterMap.mpr ⟨o % 3, ?_, ?_⟩⟩
    · have : o % 3 < 3 := Nat.mod_lt _ (by omega)
      simp
      omega
    · rw [if_pos h2]
      congr 1
      omega
theorem kd_at {g : Nat} (h : g < 3 * ks.length) : ks[g / 3]? = Option.some (kdAt ks g) := by
  have hl : g / 3 < ks.length := by omega
  unfold kdAt
  rw [List.getD_eq_getElem?_getD, List.getElem?_eq_getElem hl]
  rfl
theorem kd_mem {g : Nat} (h : g < 3 * ks.length) : kdAt ks g ∈ ks := List.mem_of_getElem? (kd_at h)
/-- some copy of a kind -/
theorem kd_ex {k : Kd} (h : k ∈ ks) {l : Nat} (hl : l < 3) : ∃ g : Nat, g < 3 * ks.length ∧ kdAt ks g = k ∧ g % 3 = l := by
  obtain ⟨j, hj⟩ := List.mem_iff_getElem?.mp h
  have hlt := (List.getElem?_eq_some_iff.mp hj).1
  refine ⟨3 * j + l, by omega, ?_, by omega⟩
  unfold kdAt
  rw [show (3 * j + l) / 3 = j by omega, List.getD_eq_getElem?_getD, hj]
  rfl
theorem mo_do (mo : MoIs n m ps s ks sz M) {v g o : Nat} (hv : v < m) (hg : g < 3 * ks.length) (ho : o < 3 * ks.length) : (o : Int) ∈ verbAt M (v : Int) (g : Int) ↔
    (forced n ps s (v : Int) (kdAt ks g) (kdAt ks o) = .yes ∨ (forced n ps s (v : Int) (kdAt ks g) (kdAt ks o) = .free ∧ o % 3 = (g + 1) % 3)) := by
  rw [mo_verb mo hv hg, mem_doneTo, List.getElem?_map, kd_at ho]
  simp
structure NoC (n m : Nat) (ps : List Sen) (s mt : Tab) (ks : List Kd) : Prop where
  pr : ∀ x ∈ ps, isContradicted n ps s mt ks x = false
  pair : ∀ v : Nat, v < m → ∀ f ∈ ks, ∀ g ∈ ks, forced n ps s (v : Int) f g ≠ .both
  self : ∀ v : Nat, v < m → ∀ k ∈ ks, forcedSelf n ps s (v : Int) k ≠ .both
theorem noC (h : conflictsOf n m ps = []) : NoC n m ps (tableOf n ps).1 (tableOf n ps).2 (requiredKinds n ps) := by
  unfold conflictsOf at h
  rw [List.append_eq_nil_iff] at h
  obtain ⟨h1, h2⟩ := h
  rw [List.filterMap_eq_nil_iff] at h1
  rw [List.flatMap_eq_nil_iff] at h2
  have h3 : ∀ v : Nat, v < m → verbConflicts n ps (tableOf n ps).1 (requiredKinds n ps) (v : Int) = [] := fun v hv => h2 _ (mem_rgI.mpr ⟨by omega, by omega⟩)
  refine ⟨fun x hx => ?_, fun v hv f hf g hg e => ?_, fun v hv k hk e => ?_⟩
  · obtain ⟨i, hi⟩ := List.mem_iff_getElem?.mp hx
    have := h1 (x, i) (List.mem_zipIdx_iff_getElem?.mpr hi)
    cases e : isContradicted n ps (tableOf n ps).1 (tableOf n ps).2 (requiredKinds n ps) x with
    | false => rfl
    | true => rw [if_pos e] at this; cases this
  · have h4 := h3 v hv
    unfold verbConflicts at h4
    rw [List.append_eq_nil_iff, List.flatMap_eq_nil_iff] at h4
    have := h4.1 f hf
    rw [List.filterMap_eq_nil_iff] at this
    have := this g hg
    rw [if_pos e] at this
    cases this
  · have h4 := h3 v hv
    unfold verbConflicts at h4
    rw [List.append_eq_nil_iff, List.filterMap_eq_nil_iff] at h4
    have := h4.2 k hk
    rw [if_pos e] at this
    cases this
theorem word_is {y k : Bool} (h : wordOf y k ≠ .both) {d : Bool} (e : (if d then y else k) = true) : wordOf y k = if d then .yes else .no := by
  cases y <;> cases k <;> cases d <;> simp_all [wordOf]
theorem word_not {y k d : Bool} (e : (if d then k else y) = false) : wordOf y k = .free ∨ wordOf y k = if d then .yes else .no := by
  cases y <;> cases k <;> cases d <;> simp_all [wordOf]
section
variable (mo : MoIs n m ps s ks sz M) (hc : NoC n m ps s mt ks) {v : Nat} (hv : v < m)
include mo hc hv
theorem do_forced {g o : Nat} (hg : g < 3 * ks.length) (ho : o < 3 * ks.length) {d : Bool} (h : isForced n ps s (v : Int) (kdAt ks g) (kdAt ks o) d = true) : decide ((o : Int) ∈ verbAt M (v : Int) (g : Int)) = d := by
  have w : forced n ps s (v : Int) (kdAt ks g) (kdAt ks o) = if d then .yes else .no := word_is (hc.pair v hv _ (kd_mem hg) _ (kd_mem ho)) (by cases d <;> exact h)
  cases d with
  | true => rw [decide_eq_true_eq, mo_do mo hv hg ho, w]; exact .inl rfl
  | false => rw [decide_eq_false_iff_not, mo_do mo hv hg ho, w]; simp
theorem do_free {g o : Nat} (hg : g < 3 * ks.length) (ho : o < 3 * ks.length) {d : Bool} (h : isForced n ps s (v : Int) (kdAt ks g) (kdAt ks o) (!d) = false) (e : d = true ↔ o % 3 = (g + 1) % 3) : decide ((o : Int) ∈ verbAt M (v : Int) (g : Int)) = d := by
  have w : forced n ps s (v : Int) (kdAt ks g) (kdAt ks o) = .free ∨ forced n ps s (v : Int) (kdAt ks g) (kdAt ks o) = if d then .yes else .no := word_not (d := d) (by cases d <;> exact h)
  cases d with
  | true =>
    rw [decide_eq_true_eq, mo_do mo hv hg ho]
    rcases w with w | w
    · exact .inr ⟨w, e.mp rfl⟩
    · exact .inl w
  | false =>
    have hne : ¬ o % 3 = (g + 1) % 3 := fun z => by have := e.mpr z; cases this
    rw [decide_eq_false_iff_not, mo_do mo hv hg ho]
    rcases w with w | w <;> simp [w, hne]
theorem self_forced {g : Nat} (hg : g < 3 * ks.length) {d : Bool} (h : isForcedSelf n ps s (v : Int) (kdAt ks g) d = true) : decide ((g : Int) ∈ selfAt M (v : Int)) = d := by
  have w : forcedSelf n ps s (v : Int) (kdAt ks g) = if d then .yes else .no := word_is (hc.self v hv _ (kd_mem hg)) (by cases d <;> exact h)
  cases d with
  | true => rw [decide_eq_true_eq, mo_self mo hv hg, w]; rfl
  | false => rw [decide_eq_false_iff_not, mo_self mo hv hg, w]; simp
omit mo hc hv in
theorem seen_mem {M : Mi.Model} {g v y : Int} {b : Bool} {t : Bool} : t ∈ seen M g v b y ↔ ∃ o ∈ having M y, (o = g ∧ t = decide (g ∈ selfAt M v)) ∨ ((o ≠ g ∨ 1 < (grp M g).1) ∧ t = if b then decide (g ∈ verbAt M v o) else decide (o ∈ verbAt M v g)) := by
  unfold seen
  rw [List.mem_flatMap]
  refine exists_congr fun o => and_congr Iff.rfl ?_
  unfold seen1
  rw [List.mem_append]
  refine or_congr ?_ ?_
  · by_cases c : o = g
    · rw [if_pos c]; simp [c]
    · rw [if_neg c]; simp [c]
  · by_cases c : o ≠ g ∨ 1 < (grp M g).1
    · rw [if_pos c, List.mem_singleton]; exact Iff.intro (fun e => And.intro c e) (fun e => And.right e)
    · rw [if_neg c]; exact Iff.intro (fun e => (nomatch e)) (fun e => absurd (And.left e) c)
/-- what is said of one and all others -/
theorem says_all {g : Nat} (hg : g < 3 * ks.length) {q d b : Bool} {x y : Int}
    (h : ∀ k ∈ ks, y ∈ above s k n → (if b then isForced n ps s (v : Int) k (kdAt ks g) d else isForced n ps s (v : Int) (kdAt ks g) k d) = true) :
    says M (.verb q x d (v : Int) b true y) (g : Int) = true := by
  show (((seen M (g : Int) (v : Int) b y).map fun t => decide (t = d)).all id) = true
  rw [List.all_eq_true]
  intro t ht
  obtain ⟨t1, ht1, rfl⟩ := List.mem_map.mp ht
  show decide (t1 = d) = true
  rw [decide_eq_true_eq]
  obtain ⟨o, ho, ht2⟩ := seen_mem.mp ht1
  obtain ⟨o, rfl, hol, hoy⟩ := (mem_having mo).mp ho
  have f := h _ (kd_mem hol) hoy
  rcases ht2 with ⟨e, rfl⟩ | ⟨_, rfl⟩
  · have e : o = g := by omega
    subst e
    refine self_forced mo hc hv hg ?_
    have f2 : isForced n ps s (v : Int) (kdAt ks o) (kdAt ks o) d = true := by cases b <;> exact f
    unfold isForcedSelf
    rw [f2]
    rfl
  · cases b with
    | true => exact do_forced mo hc hv hol hg f
    | false => exact do_forced mo hc hv hg hol f
/-- what is said of one and some other -/
theorem says_some (tb : Tb n ps s mt) (hk : Ks n s mt ks) {g : Nat} (hg : g < 3 * ks.length) {q d b : Bool} {x y : Int} (hy : Kd.one y ∈ ks)
    (h : (if b then isForced n ps s (v : Int) (.one y) (kdAt ks g) (!d) else isForced n ps s (v : Int) (kdAt ks g) (.one y) (!d)) = false) :
    says M (.verb q x d (v : Int) b false y) (g : Int) = true := by
  show (((seen M (g : Int) (v : Int) b y).map fun t => decide (t = d)).any id) = true
  rw [List.any_eq_true]
  have hyn : Nn n y := hk.rg hy
  obtain ⟨o, hol, hok, h3⟩ := kd_ex hy (l := if d = b then (g + 2) % 3 else (g + 1) % 3) (by split <;> omega)
  have hoy : (o : Int) ∈ having M y := (mem_having mo).mpr ⟨o, rfl, hol, by rw [hok, above_one]; exact ⟨hyn, tb.refl hyn⟩⟩
  have hne : (o : Int) ≠ (g : Int) := by
    intro e
    have e : o = g := by omega
    subst e
    split at h3 <;> omega
  refine ⟨true, List.mem_map.mpr ⟨_, seen_mem.mpr ⟨(o : Int), hoy, .inr ⟨.inl hne, rfl⟩⟩, ?_⟩, rfl⟩
  rw [decide_eq_true_eq]
  rw [← hok] at h
  cases b with
  | true =>
    refine do_free mo hc hv hol hg (by simpa using h) ?_
    cases d with
    | true => rw [if_pos rfl] at h3; simp; omega
    | false => rw [if_neg (by decide)] at h3; simp; omega
  | false =>
    refine do_free mo hc hv hg hol (by simpa using h) ?_
    cases d with
    | true => rw [if_neg (by decide)] at h3; simp; omega
    | false => rw [if_pos rfl] at h3; simp; omega
end
theorem any_intro {α : Type} {l : List α} {p : α → Bool} {x : α} (hx : x ∈ l) (h : p x = true) : l.any p = true := List.any_eq_true.mpr ⟨x, hx, h⟩
/-- the canonical model satisfies the premises -/
theorem sat_one (mo : MoIs n m ps s ks sz M) (hx : ∀ x ∈ ps, x.ok n m) (hc : NoC n m ps s mt ks) (tb : Tb n ps s mt) (hk : Ks n s mt ks) (ab : ∀ k ∈ ks, ∀ z ∈ above s k n, Kd.one z ∈ ks) (hst : ∀ x ∈ ps, ∀ k ∈ stated x, k ∈ ks)
    (hask : ∀ {x d v b y}, Sen.verb true x d v b false y ∈ ps → Kd.one x ∈ ks → Kd.one y ∈ ks)
    (hle : ∀ {x y}, has mt x y = true → countIn n s ks sz y ≤ countIn n s ks sz x) (hlt : ∀ {x y}, Kd.one y ∈ ks → has mt y x = true → has mt x y = false → countIn n s ks sz x < countIn n s ks sz y)
    {x : Sen} (hm : x ∈ ps) : holds M x = true := by
  have ok := hx x hm
  have np := hc.pr x hm
  cases x with
  | all x y =>
    show (((having M x).map fun g => decide (y ∈ (grp M g).2)).all id) = true
    rw [List.all_eq_true]
    intro t ht
    obtain ⟨g, hg, rfl⟩ := List.mem_map.mp ht
    obtain ⟨g, rfl, hgl, hgx⟩ := (mem_having mo).mp hg
    show decide _ = true
    rw [decide_eq_true_eq, mo_grp mo hgl]
    obtain ⟨_, o, ho, e⟩ := mem_above.mp hgx
    exact mem_above.mpr ⟨ok.2, o, ho, tb.trans e (tb.all hm)⟩
  | snot x y =>
    show (!((having M x).map fun g => decide (y ∈ (grp M g).2)).all id) = true
    obtain ⟨g, hgl, hgk, _⟩ := kd_ex (hst _ hm (.one x) (by simp [stated])) (l := 0) (by omega)
    rw [Bool.not_eq_true', List.all_eq_false]
    refine ⟨false, List.mem_map.mpr ⟨(g : Int), (mem_having mo).mpr ⟨g, rfl, hgl, by rw [hgk, above_one]; exact ⟨ok.1, tb.refl ok.1⟩⟩, ?_⟩, by simp⟩
    rw [decide_eq_false_iff_not, mo_grp mo hgl]
    show ¬ y ∈ above s (kdAt ks g) n
    rw [hgk, above_one]
    rintro ⟨_, e⟩
    have : has s x y = false := np
    rw [this] at e
    cases e
  | no x y =>
    show (!((having M x).map fun g => decide (y ∈ (grp M g).2)).any id) = true
    rw [Bool.not_eq_true', List.any_eq_false]
    intro t ht
    obtain ⟨g, hg, rfl⟩ := List.mem_map.mp ht
    obtain ⟨g, rfl, hgl, hgx⟩ := (mem_having mo).mp hg
    show ¬ decide _ = true
    rw [decide_eq_true_eq, mo_grp mo hgl]
    intro hgy
    have : (ks.any fun k => decide (x ∈ above s k n) && decide (y ∈ above s k n)) = false := np
    rw [any_intro (kd_mem hgl) (by rw [Bool.and_eq_true, decide_eq_true_eq, decide_eq_true_eq]; exact ⟨hgx, hgy⟩)] at this
    cases this
  | some x y =>
    show (((having M x).map fun g => decide (y ∈ (grp M g).2)).any id) = true
    rw [List.any_eq_true]
    have hex : ∃ k ∈ ks, x ∈ above s k n ∧ y ∈ above s k n := by
      by_cases c : x = y
      · subst c
        have z : x ∈ above s (.one x) n := above_one.mpr ⟨ok.1, tb.refl ok.1⟩
        exact ⟨.one x, hst _ hm _ (by simp [stated]), z, z⟩
      · refine ⟨.both (if y < x then y else x) (if y > x then y else x), hst _ hm _ (by simp [stated, c]), mem_above.mpr ⟨ok.1, x, ?_, tb.refl ok.1⟩, mem_above.mpr ⟨ok.2, y, ?_, tb.refl ok.2⟩⟩
        · show x ∈ [_, _]
          by_cases c2 : y < x
          · rw [if_pos c2, if_neg (by omega)]; simp
          · rw [if_neg c2]; simp
        · show y ∈ [_, _]
          by_cases c2 : y < x
          · rw [if_pos c2]; simp
          · rw [if_pos (show y > x by omega)]; simp
    obtain ⟨k, hk1, h1, h2⟩ := hex
    obtain ⟨g, hgl, rfl, _⟩ := kd_ex hk1 (l := 0) (by omega)
    refine ⟨true, List.mem_map.mpr ⟨(g : Int), (mem_having mo).mpr ⟨g, rfl, hgl, h1⟩, ?_⟩, rfl⟩
    rw [decide_eq_true_eq, mo_grp mo hgl]
    exact h2
  | many x y =>
    show decide (sizeOf M y ≤ sizeOf M x) = true
    rw [decide_eq_true_eq, size_eq mo, size_eq mo]
    exact hle (tb.many hm)
  | fewer x y =>
    show decide (sizeOf M x < sizeOf M y) = true
    rw [decide_eq_true_eq, size_eq mo, size_eq mo]
    exact hlt (hst _ hm _ (by simp [stated])) (tb.fewer hm) np
  | verb q x d v b p y =>
    obtain ⟨v, rfl, hv⟩ : ∃ w : Nat, v = (w : Int) ∧ w < m := by
      have := ok.2.2
      unfold Nn at this
      exact ⟨v.toNat, by omega, by omega⟩
    cases q with
    | true =>
      show (((having M x).map (says M (.verb true x d (v : Int) b p y))).all id) = true
      rw [List.all_eq_true]
      intro t ht
      obtain ⟨g, hg, rfl⟩ := List.mem_map.mp ht
      obtain ⟨g, rfl, hgl, hgx⟩ := (mem_having mo).mp hg
      show says M (.verb true x d (v : Int) b p y) (g : Int) = true
      cases p with
      | true =>
        refine says_all mo hc hv hgl fun k _ hky => ?_
        cases b with
        | true =>
          unfold isForced
          rw [if_pos rfl, any_intro hm (by simp [forcedBy, hky, hgx])]
          rfl
        | false =>
          unfold isForced
          rw [if_neg (by decide), any_intro hm (by simp [forcedBy, hky, hgx])]
          rfl
      | false =>
        refine says_some mo hc hv tb hk hgl (hask hm (ab _ (kd_mem hgl) _ hgx)) ?_
        have np : ((ks.filter fun k => decide (x ∈ above s k n)).any fun k => contrary n ps s (.verb true x d (v : Int) b false y) k) = false := np
        rw [List.any_eq_false] at np
        have := np _ (List.mem_filter.mpr ⟨kd_mem hgl, by rw [decide_eq_true_eq]; exact hgx⟩)
        rw [Bool.not_eq_true] at this
        exact this
    | false =>
      show (((having M x).map (says M (.verb false x d (v : Int) b p y))).any id) = true
      rw [List.any_eq_true]
      cases p with
      | true =>
        obtain ⟨g, hgl, hgk, _⟩ := kd_ex (hst _ hm (.mark x d (v : Int) b y) (by simp [stated])) (l := 0) (by omega)
        have hgx : x ∈ above s (kdAt ks g) n := by
          rw [hgk, mem_above]
          exact ⟨ok.1, x, by simp [nounsOf], tb.refl ok.1⟩
        refine ⟨true, List.mem_map.mpr ⟨(g : Int), (mem_having mo).mpr ⟨g, rfl, hgl, hgx⟩, ?_⟩, rfl⟩
        refine says_all mo hc hv hgl fun k _ hky => ?_
        cases b with
        | true =>
          unfold isForced
          rw [if_pos rfl, hgk]
          simp [markBy, hky]
        | false =>
          unfold isForced
          rw [if_neg (by decide), hgk]
          simp [markBy, hky]
      | false =>
        obtain ⟨g, hgl, hgk, _⟩ := kd_ex (hst _ hm (.one x) (by simp [stated])) (l := 0) (by omega)
        have hgx : x ∈ above s (kdAt ks g) n := by
          rw [hgk, above_one]
          exact ⟨ok.1, tb.refl ok.1⟩
        refine ⟨true, List.mem_map.mpr ⟨(g : Int), (mem_having mo).mpr ⟨g, rfl, hgl, hgx⟩, ?_⟩, rfl⟩
        refine says_some mo hc hv tb hk hgl (hst _ hm _ (by simp [stated])) ?_
        rw [hgk]
        exact np
  | self q x d v =>
    obtain ⟨v, rfl, hv⟩ : ∃ w : Nat, v = (w : Int) ∧ w < m := by
      have := ok.2
      unfold Nn at this
      exact ⟨v.toNat, by omega, by omega⟩
    cases q with
    | true =>
      show (((having M x).map (says M (.self true x d (v : Int)))).all id) = true
      rw [List.all_eq_true]
      intro t ht
      obtain ⟨g, hg, rfl⟩ := List.mem_map.mp ht
      obtain ⟨g, rfl, hgl, hgx⟩ := (mem_having mo).mp hg
      show decide (decide ((g : Int) ∈ selfAt M (v : Int)) = d) = true
      rw [decide_eq_true_eq]
      refine self_forced mo hc hv hgl ?_
      unfold isForcedSelf
      rw [any_intro (p := selfBy (above s (kdAt ks g) n) (v : Int) d) hm (by simp [selfBy, hgx])]
      simp
    | false =>
      show (((having M x).map (says M (.self false x d (v : Int)))).any id) = true
      rw [List.any_eq_true]
      obtain ⟨g, hgl, hgk, _⟩ := kd_ex (hst _ hm (.self x d (v : Int)) (by simp [stated])) (l := 0) (by omega)
      have hgx : x ∈ above s (kdAt ks g) n := by
        rw [hgk, mem_above]
        exact ⟨ok.1, x, by simp [nounsOf], tb.refl ok.1⟩
      refine ⟨true, List.mem_map.mpr ⟨(g : Int), (mem_having mo).mpr ⟨g, rfl, hgl, hgx⟩, ?_⟩, rfl⟩
      show decide (decide ((g : Int) ∈ selfAt M (v : Int)) = d) = true
      rw [decide_eq_true_eq]
      refine self_forced mo hc hv hgl ?_
      unfold isForcedSelf
      rw [hgk]
      simp [selfKind]
/-- the plain law -/
theorem model_sat (hx : ∀ x ∈ ps, x.ok n m) (h : conflictsOf n m ps = []) : ps.all (holds (modelOf n m ps)) = true := by
  have tb := table_tb hx
  have rq := required_rq hx
  have ab : ∀ k ∈ requiredKinds n ps, ∀ z ∈ above (tableOf n ps).1 k n, Kd.one z ∈ requiredKinds n ps := fun k hk z hz => mem_ks_one.mpr (above_req hx hk hz)
  have hk : Ks n (tableOf n ps).1 (tableOf n ps).2 (requiredKinds n ps) := ⟨ks_nodup, fun h => rq.rg (mem_ks_one.mp h), fun h e => mem_ks_one.mpr (rq.sub (mem_ks_one.mp h) e), fun h e => mem_ks_one.mpr (rq.most (mem_ks_one.mp h) e)⟩
  exact List.all_eq_true.mpr fun x hm => sat_one mo_is hx (noC h) tb hk ab (fun x hx1 k hk1 => stated_ks hx hx1 hk1) (fun h1 h2 => mem_ks_one.mpr (rq.ask h1 (mem_ks_one.mp h2))) (fun h1 => size_le tb hk ab h1) (fun h1 h2 h3 => size_lt tb hk ab h1 h2 h3) hm
end
end AL
namespace AL
open PySem PySem.Spec PyProof.Rows L2 Mi
local macro_rules | `(tactic| walk_at "v") => `(tactic| first | exact Or.inl rfl | exact Or.inr rfl | exact Or.inr (Or.inl rfl) | exact Or.inr (Or.inr rfl))
local macro_rules | `(tactic| walk_at "we") => `(tactic| first
  | refine pw_nm rfl (by walk_at "v") rfl ?_
  | refine pw_int ?_
  | refine pw_str ?_
  | refine pw_bl ?_
  | (refine gEcmp ?_; walk_at "wc")
  | refine pw_ix ?_
  | (refine gEcall ?_; walk_at "wf")
  | refine pw_tup ?_
  | refine AL.pw_and ?_
  | refine AL.pw_or ?_
  | refine AL.pw_one ?_
  | refine AL.pw_not ?_
  | (refine gEbin ?_; walk_at "wb")
  | refine pw_slice ?_
  | refine pw_lst ?_
  | refine pw_ife ?_
  | refine pw_neg ?_
  | refine pw_non ?_
  | refine pw_gint rfl (Txt.c_MOST_NOUNS (by assumption)) ?_
  | refine pw_gint rfl (Txt.c_MOST_VERBS (by assumption)) ?_
  | refine pw_gint rfl (Txt.c_MOST_PREMISES (by assumption)) ?_
  | refine pw_gint rfl (Txt.c_MOST_SPEAKER (by assumption)) ?_
  | refine pw_gint rfl (Txt.c_MOST_ASSERTIONS (by assumption)) ?_
  | refine pw_gint rfl (Txt.c_MOST_COMMANDS (by assumption)) ?_
  )
local macro_rules | `(tactic| walk_at "wc") => `(tactic| first
  | refine pw_eqS (by assumption) ?_
  | refine pw_eq ?_
  | refine pw_ne ?_
  | refine pw_chainLe ?_
  | refine pw_lt ?_
  | refine pw_le ?_
  | refine pw_gt ?_
  | refine pw_ge ?_
  | refine pw_inG (Txt.c_TWO_NOUNS (by assumption)) rfl ?_
  | refine pw_inG (Txt.c_QUANTITIES (by assumption)) rfl ?_
  )
local macro_rules | `(tactic| walk_at "wf") => `(tactic| first
  | refine pw_len (Txt.b_len (by assumption)) ?_
  | refine pw_isi_int (Txt.b_isinstance (by assumption)) (Txt.b_int (by assumption)) ?_
  | refine pw_isi_bool (Txt.b_isinstance (by assumption)) (Txt.b_bool (by assumption)) ?_
  | refine pw_isi_str (Txt.b_isinstance (by assumption)) (Txt.b_str (by assumption)) ?_
  | refine pw_isi_tuple (Txt.b_isinstance (by assumption)) (Txt.b_tuple (by assumption)) ?_
  | refine pw_isi_list (Txt.b_isinstance (by assumption)) (Txt.b_list (by assumption)) ?_
  | refine pw_tuple (Txt.b_tuple (by assumption)) ?_
  | refine pw_any rfl (Txt.b_any (by assumption)) ?_
  | refine pw_all rfl (Txt.b_all (by assumption)) ?_
  | refine pw_sum rfl (Txt.b_sum (by assumption)) ?_
  | refine pw_min2 rfl (Txt.b_min (by assumption)) ?_
  | refine pw_max2 rfl (Txt.b_max (by assumption)) ?_
  | refine pw_toInt (Txt.b_int (by assumption)) ?_
  | refine pw_call (by assumption) (by assumption) (by decide) rfl ?_
  )
local macro_rules | `(tactic| walk_at "wb") => `(tactic| first
  | refine pw_add ?_
  | refine pw_sub ?_
  | refine pw_mul ?_
  | refine pw_fdiv ?_
  | refine pw_mod ?_
  )
local macro_rules | `(tactic| walk_at "wt") => `(tactic| first
  | (refine gTcmp ?_; walk_at "wd")
  | refine pwt_w ?_
  | refine pwt_not ?_
  | refine pwt_tru (fun _ => rfl) ?_
  )
local macro_rules | `(tactic| walk_at "wd") => `(tactic| first
  | refine pwt_eqS (by assumption) ?_
  | refine pwt_eq ?_
  | refine pwt_ne ?_
  | refine pwt_lt ?_
  | refine pwt_le ?_
  | refine pwt_gt ?_
  | refine pwt_ge ?_
  | refine pwt_inG (Txt.c_TWO_NOUNS (by assumption)) rfl ?_
  | refine pwt_inG (Txt.c_QUANTITIES (by assumption)) rfl ?_
  | refine pwt_inTup ?_
  | refine pwt_inLst ?_
  )
local macro_rules | `(tactic| walk_at "wl") => `(tactic| first
  | refine br_t rfl ?_
  | refine br_f rfl ?_
  | refine rb_t rfl ?_
  | refine rb_f rfl ?_
  | refine ⟨_, rfl, ?_⟩
  | refine ⟨_, _, rfl, rfl, ?_⟩
  | refine ⟨_, _, rfl, ?_⟩
  | refine ⟨rfl, ?_⟩
  | refine ⟨dp_ok _ rfl rfl, ?_⟩
  | refine ⟨_, _, _, rfl, rfl, rfl, ?_⟩
  | refine ⟨le_line (Nat.le_of_ble_eq_true rfl), ?_⟩
  | refine ⟨_, _, _, rfl, rfl, ?_⟩
  | exact rfl
  )
local macro_rules | `(tactic| walk_at "w1") => `(tactic| first
  | (refine gE ?_; walk_at "we")
  | (refine gT ?_; walk_at "wt")
  | (refine gA ?_; first | refine pwa_cons ?_ | refine pwa_nil ?_)
  | (refine gW ?_; first | refine pww_and ?_ | refine pww_or ?_ | refine pww_and1 ?_ | refine pww_or1 ?_)
  | (refine gS ?_; walk_at "nf"; first | refine sd_ret ?_ | refine sd_if ?_ | refine sd_newLN (by assumption) rfl (by walk_at "v") (Nat.le_of_ble_eq_true rfl) ?_ | refine sd_setN (by assumption) rfl (by walk_at "v") ?_ | refine sd_appendN rfl rfl (by walk_at "v") ?_ | refine sd_nil ?_)
  | (refine gP ?_; first | refine pwp_none ?_ | refine pwp_some ?_)
  | walk_at "wl"
  )
local macro_rules | `(tactic| walk_at "w") => `(tactic| repeat walk_at "w1")

section
variable {P : Program} {w : World} {K : PySem.W.Frag} {mg : Str → Option Value} {base : Heap}
def spStream (K : PySem.W.Frag) : Sp := fun vs H Q _ => ∃ (a : Addr) (ns : List Int), vs = [.ref a] ∧ SqL K H a (ns.map V.int) ∧ ∀ q p, H q = none → upd H q (.lst (ns.map V.int)) p = none → Q (.ref p) (upd (upd H q (.lst (ns.map V.int))) p (.lst [.ref q, .int 0, .int 0]))
local macro_rules | `(tactic| walk_at "nf") => `(tactic| first | refine nfS (δ' := [_]) rfl ?_ | refine nfE (δ' := [_]) rfl ?_ | refine nfT (δ' := [_]) rfl ?_ | refine nfTs (δ' := [_]) rfl ?_ | refine nfI (δ' := [_]) rfl ?_ | refine nfG (δ' := [_]) rfl ?_ | refine nfX (δ' := [_]) rfl ?_ | refine nfXO (δ' := [_]) rfl ?_)
theorem fn_stream {f : Addr} {fd : FuncData} (T : Txt K mg) (F : Fun K "_law_stream" "_law_stream" s_law_stream f fd) : FnOk P w K mg base CX0 1 f fd ["_law_script"] (spStream K) :=
  F.ok sc_law_stream (fun vs H Q E ⟨a, ns, e, _⟩ => by rw [e]; rfl) fun cdv A outer s H vs Q E hr ⟨a, ns, e, hS, q⟩ => ⟨_, pss_one (ps_ret (pe_lst (pa_cons (pe_callTy call_list_of rfl T.b_list bt_list (pa_cons (pv 0) pa_nil)) (pa_cons pe_int (pa_cons pe_int pa_nil))))), by
    subst e
    exact ⟨_, rfl, a, _, rfl, .inl hS, fun q0 hq => ⟨by show 3 ≤ sizeLine; decide, fun p hp => q q0 p hq hp⟩⟩⟩
theorem said_behind (l : List Asr) (sp : Int) (x : Sen) : saidBy (behindA l (.assert sp x)) sp = saidBy l sp ++ [x] := by
  show (l ++ [(sp, x)]).filterMap _ = _
  rw [List.filterMap_append]
  show saidBy l sp ++ _ = _
  congr 1
  simp
theorem why_none {n m : Nat} {l : List Asr} {c : Cmd} (h : whyC n m l c = none) : whyNot n m l c = "" := by
  cases c with
  | wd i =>
    unfold whyC canB at h
    rw [show whyNot n m l (.wd i) = if l.length ≤ i then ("missing" : Str) else ("" : Str) from rfl]
    by_cases c : l.length ≤ i
    · simp [c] at h
    · simp [c]
  | assert sp x =>
    unfold whyC canB at h
    rw [show whyNot n m l (.assert sp x) = if 8 ≤ l.length then ("many" : Str) else if (conflictsOf n m (saidBy l sp ++ [x])).isEmpty then ("" : Str) else ("self" : Str) from rfl]
    by_cases c : 8 ≤ l.length
    · simp [c] at h
    · simp only [if_neg c] at h
      rw [said_behind] at h
      rw [if_neg c]
      cases e : (conflictsOf n m (saidBy l sp ++ [x])).isEmpty with
      | true => rfl
      | false => rw [e] at h; simp at h
theorem why_some {n m : Nat} {l : List Asr} {c : Cmd} {s : Str} (h : whyC n m l c = some s) : whyNot n m l c = s ∧ seq (.str s) (.str "") = some false := by
  cases c with
  | wd i =>
    unfold whyC canB at h
    rw [show whyNot n m l (.wd i) = if l.length ≤ i then ("missing" : Str) else ("" : Str) from rfl]
    by_cases c : l.length ≤ i
    · simp only [if_pos c, Option.some.injEq] at h
      rw [if_pos c]
      subst h
      exact ⟨rfl, rfl⟩
    · simp [c] at h
  | assert sp x =>
    unfold whyC canB at h
    rw [show whyNot n m l (.assert sp x) = if 8 ≤ l.length then ("many" : Str) else if (conflictsOf n m (saidBy l sp ++ [x])).isEmpty then ("" : Str) else ("self" : Str) from rfl]
    by_cases c : 8 ≤ l.length
    · simp only [if_pos c, Option.some.injEq] at h
      rw [if_pos c]
      subst h
      exact ⟨rfl, rfl⟩
    · simp only [if_neg c] at h
      rw [said_behind] at h
      rw [if_neg c]
      cases e : (conflictsOf n m (saidBy l sp ++ [x])).isEmpty with
      | true => rw [e] at h; simp at h
      | false =>
        rw [e] at h
        simp only [Bool.false_eq_true, if_false, Option.some.injEq] at h
        subst h
        exact ⟨rfl, rfl⟩
theorem why_conf {n m : Nat} {l : List Asr} {sp : Int} {x : Sen} (h : whyC n m l (.assert sp x) = none) : conflictsOf n m (saidBy (behindA l (.assert sp x)) sp) = [] := by
  unfold whyC canB at h
  by_cases c : 8 ≤ l.length
  · simp [c] at h
  · simp only [if_neg c] at h
    cases e : (conflictsOf n m (saidBy (behindA l (.assert sp x)) sp)).isEmpty with
    | true => exact List.isEmpty_iff.mp e
    | false => rw [e] at h; simp at h
theorem why_len {n m : Nat} {l : List Asr} {c : Cmd} (h : whyC n m l c = none) (hl : AsrOk n m l) (hc : c.ok n m) : AsrOk n m (behindA l c) := by
  cases c with
  | wd i =>
    refine ⟨?_, fun a ha => hl.2 a ?_⟩
    · show (l.take i ++ l.drop (i + 1)).length ≤ 8
      have := hl.1
      rw [List.length_append, List.length_take, List.length_drop]
      omega
    · rcases List.mem_append.mp ha with h1 | h1
      · exact List.mem_of_mem_take h1
      · exact List.mem_of_mem_drop h1
  | assert sp x =>
    have h8 : ¬ 8 ≤ l.length := fun c => by unfold whyC canB at h; simp [c] at h
    refine ⟨?_, fun a ha => ?_⟩
    · show (l ++ [(sp, x)]).length ≤ 8
      rw [List.length_append, List.length_singleton]
      omega
    · rcases List.mem_append.mp ha with h1 | h1
      · exact hl.2 a h1
      · rw [List.mem_singleton.mp h1]
        exact ⟨⟨hc.1, hc.2.1⟩, hc.2.2⟩
theorem Eqb.up {k : Nat} {d : D} (h : Eqb k d) : Eqb (k + 1) d := by
  induction h with
  | non => exact .non
  | bl b => exact .bl b
  | int i => exact .int i
  | str s => exact .str s
  | tup l z _ ih => exact .tup l z ih
  | lst l z _ ih => exact .lst l z ih
theorem Eqb.mono {j k : Nat} {d : D} (h : Eqb j d) (le : j ≤ k) : Eqb k d := by
  induction le with
  | refl => exact h
  | step _ ih => exact ih.up
theorem eqb_sen (x : Sen) : Eqb 1 (senD x) := by
  cases x with
  | verb q x d v b p y => exact .tup _ (by simp) (by intro d hd; simp at hd; rcases hd with rfl | rfl | rfl | rfl | rfl | rfl | rfl | rfl <;> first | exact .str _ | exact .int _ | exact .bl _ | (cases q <;> exact .str _) | (cases p <;> exact .str _))
  | self q x d v => exact .tup _ (by simp) (by intro d hd; simp at hd; rcases hd with rfl | rfl | rfl | rfl | rfl <;> first | exact .str _ | exact .int _ | exact .bl _ | (cases q <;> exact .str _))
  | _ x y => exact .tup _ (by simp) (by intro d hd; simp at hd; rcases hd with rfl | rfl | rfl <;> first | exact .str _ | exact .int _)
theorem eqb_sens {l : List Sen} (h : l.length ≤ 1000) : Eqb 2 (sensD l) := .tup _ (by rw [List.length_map]; exact h) fun d hd => by
  obtain ⟨x, _, rfl⟩ := List.mem_map.mp hd
  exact eqb_sen x
theorem eqb_asrs {l : List Asr} (h : l.length ≤ 1000) : Eqb 3 (asrsD l) := .tup _ (by rw [List.length_map]; exact h) fun d hd => by
  obtain ⟨x, _, rfl⟩ := List.mem_map.mp hd
  refine .tup _ (by simp) fun d hd => ?_
  simp at hd
  rcases hd with rfl | rfl
  · exact .int _
  · exact eqb_sen _
theorem eqb_cmd (c : Cmd) : Eqb 2 (cmdD c) := by
  cases c with
  | assert sp x =>
    refine .tup _ (by simp) fun d hd => ?_
    simp at hd
    rcases hd with rfl | rfl | rfl
    · exact .str _
    · exact .int _
    · exact eqb_sen _
  | wd i =>
    refine .tup _ (by simp) fun d hd => ?_
    simp at hd
    rcases hd with rfl | rfl
    · exact .str _
    · exact .int _
theorem eqb_cmds {l : List Cmd} (h : l.length ≤ 1000) : Eqb 3 (.tup (l.map cmdD)) := .tup _ (by rw [List.length_map]; exact h) fun d hd => by
  obtain ⟨x, _, rfl⟩ := List.mem_map.mp hd
  exact eqb_cmd x
theorem eqb_ints {l : List Int} (h : l.length ≤ 1000) : Eqb 1 (intsD l) := .tup _ (by rw [List.length_map]; exact h) fun d hd => by
  obtain ⟨x, _, rfl⟩ := List.mem_map.mp hd
  exact .int x
/-- a model that may be compared -/
structure ModSm (M : Mi.Model) : Prop where
  g : M.groups.length ≤ 1000
  g1 : ∀ x ∈ M.groups, x.2.length ≤ 1000
  v : M.verbs.length ≤ 1000
  v1 : ∀ x ∈ M.verbs, x.length ≤ 1000 ∧ ∀ y ∈ x, y.length ≤ 1000
  s : M.selves.length ≤ 1000
  s1 : ∀ x ∈ M.selves, x.length ≤ 1000
theorem eqb_model {M : Mi.Model} (h : ModSm M) : Eqb 4 (modelD M) := by
  refine .tup _ (by simp) fun d hd => ?_
  simp only [List.mem_cons, List.not_mem_nil, or_false] at hd
  rcases hd with rfl | rfl | rfl
  · refine .tup _ (by rw [List.length_map]; exact h.g) fun d hd => ?_
    obtain ⟨x, hx, rfl⟩ := List.mem_map.mp hd
    refine .tup _ (by simp) fun d hd => ?_
    simp only [List.mem_cons, List.not_mem_nil, or_false] at hd
    rcases hd with rfl | rfl
    · exact .int _
    · exact eqb_ints (h.g1 x hx)
  · refine .tup _ (by rw [List.length_map]; exact h.v) fun d hd => ?_
    obtain ⟨x, hx, rfl⟩ := List.mem_map.mp hd
    refine .tup _ (by rw [List.length_map]; exact (h.v1 x hx).1) fun d hd => ?_
    obtain ⟨y, hy, rfl⟩ := List.mem_map.mp hd
    exact eqb_ints ((h.v1 x hx).2 y hy)
  · refine .tup _ (by rw [List.length_map]; exact h.s) fun d hd => ?_
    obtain ⟨x, hx, rfl⟩ := List.mem_map.mp hd
    exact (eqb_ints (h.s1 x hx)).mono (by omega)
theorem model_ok {n m : Nat} {ps : List Sen} (pr : Prem n m ps) : ModOk m (modelOf n m ps) ∧ ModSm (modelOf n m ps) := by
  have hk := requiredKinds_len pr
  have hn := pr.1.2.1
  have hm := pr.1.2.2
  have mo : MoIs n m ps (tableOf n ps).1 (requiredKinds n ps) (sizesOf n (tableOf n ps).1 (tableOf n ps).2 (requiredKinds n ps)) (modelOf n m ps) := mo_is
  generalize modelOf n m ps = MM at *
  generalize sizesOf n (tableOf n ps).1 (tableOf n ps).2 (requiredKinds n ps) = sz at *
  generalize (tableOf n ps).1 = sub at *
  generalize requiredKinds n ps = ks at *
  have hz := mo.len
  have lg : MM.groups.length = sz.length := by rw [mo.groups, List.length_map, List.length_zipIdx]
  have lv : MM.verbs.length = m := by rw [mo.verbs, List.length_map, len_rgI]
  have ls : MM.selves.length = m := by rw [mo.selves, List.length_map, len_rgI]
  have hv : ∀ x ∈ MM.verbs, x.length = sz.length ∧ ∀ y ∈ x, y.length ≤ 1000 := fun x hx => by
    rw [mo.verbs] at hx
    obtain ⟨v, _, rfl⟩ := List.mem_map.mp hx
    refine ⟨by rw [List.length_map, List.length_range], fun y hy => ?_⟩
    obtain ⟨g, _, rfl⟩ := List.mem_map.mp hy
    unfold doneTo
    have := flatMap_le (fun p : Wd × Nat => [0, 1, 2].filterMap fun (l : Nat) => if p.1 = .yes ∨ (p.1 = .free ∧ l = (g + 1) % 3) then some ((3 * p.2 + l : Nat) : Int) else none) 3 (fun p => List.length_filterMap_le _ _) (ks.map fun h => forced n ps sub v (kdAt ks g) h).zipIdx
    rw [List.length_zipIdx, List.length_map] at this
    exact Nat.le_trans this (by omega)
  refine ⟨⟨by omega, lv, ls, fun x hx => (hv x hx).1.trans lg.symm⟩, by omega, fun x hx => ?_, by omega, fun x hx => ⟨by have := (hv x hx).1; omega, (hv x hx).2⟩, by omega, fun x hx => ?_⟩
  · rw [mo.groups] at hx
    obtain ⟨p, _, rfl⟩ := List.mem_map.mp hx
    have := List.length_filter_le (fun z => (nounsOf (kdAt ks p.2)).any fun o => has sub o z) (rgI n)
    rw [len_rgI] at this
    exact Nat.le_trans this (by omega)
  · rw [mo.selves] at hx
    obtain ⟨v, _, rfl⟩ := List.mem_map.mp hx
    refine Nat.le_trans (List.length_filterMap_le _ _) ?_
    rw [List.length_range]
    omega
end
end AL
namespace AL
open PySem PySem.Spec PyProof.Rows L2 Mi
local macro_rules | `(tactic| walk_at "v") => `(tactic| first | exact Or.inl rfl | exact Or.inr rfl | exact Or.inr (Or.inl rfl) | exact Or.inr (Or.inr rfl))
local macro_rules | `(tactic| walk_at "we") => `(tactic| first
  | refine pw_nm rfl (by walk_at "v") rfl ?_
  | refine pw_int ?_
  | refine pw_str ?_
  | refine pw_bl ?_
  | (refine gEcmp ?_; walk_at "wc")
  | refine pw_ix ?_
  | (refine gEcall ?_; walk_at "wf")
  | refine pw_tup ?_
  | refine AL.pw_and ?_
  | refine AL.pw_or ?_
  | refine AL.pw_one ?_
  | refine AL.pw_not ?_
  | (refine gEbin ?_; walk_at "wb")
  | refine pw_slice ?_
  | refine pw_lst ?_
  | refine pw_ife ?_
  | refine pw_neg ?_
  | refine pw_non ?_
  | refine pw_gint rfl (Txt.c_MOST_NOUNS (by assumption)) ?_
  | refine pw_gint rfl (Txt.c_MOST_VERBS (by assumption)) ?_
  | refine pw_gint rfl (Txt.c_MOST_PREMISES (by assumption)) ?_
  | refine pw_gint rfl (Txt.c_MOST_SPEAKER (by assumption)) ?_
  | refine pw_gint rfl (Txt.c_MOST_ASSERTIONS (by assumption)) ?_
  | refine pw_gint rfl (Txt.c_MOST_COMMANDS (by assumption)) ?_
  )
local macro_rules | `(tactic| walk_at "wc") => `(tactic| first
  | refine pw_eqS (by assumption) ?_
  | refine pw_eq ?_
  | refine pw_ne ?_
  | refine pw_chainLe ?_
  | refine pw_lt ?_
  | refine pw_le ?_
  | refine pw_gt ?_
  | refine pw_ge ?_
  | refine pw_inG (Txt.c_TWO_NOUNS (by assumption)) rfl ?_
  | refine pw_inG (Txt.c_QUANTITIES (by assumption)) rfl ?_
  )
local macro_rules | `(tactic| walk_at "wf") => `(tactic| first
  | refine pw_len (Txt.b_len (by assumption)) ?_
  | refine pw_isi_int (Txt.b_isinstance (by assumption)) (Txt.b_int (by assumption)) ?_
  | refine pw_isi_bool (Txt.b_isinstance (by assumption)) (Txt.b_bool (by assumption)) ?_
  | refine pw_isi_str (Txt.b_isinstance (by assumption)) (Txt.b_str (by assumption)) ?_
  | refine pw_isi_tuple (Txt.b_isinstance (by assumption)) (Txt.b_tuple (by assumption)) ?_
  | refine pw_isi_list (Txt.b_isinstance (by assumption)) (Txt.b_list (by assumption)) ?_
  | refine pw_tuple (Txt.b_tuple (by assumption)) ?_
  | refine pw_any rfl (Txt.b_any (by assumption)) ?_
  | refine pw_all rfl (Txt.b_all (by assumption)) ?_
  | refine pw_sum rfl (Txt.b_sum (by assumption)) ?_
  | refine pw_min2 rfl (Txt.b_min (by assumption)) ?_
  | refine pw_max2 rfl (Txt.b_max (by assumption)) ?_
  | refine pw_toInt (Txt.b_int (by assumption)) ?_
  | refine pw_call (by assumption) (by assumption) (by decide) rfl ?_
  )
local macro_rules | `(tactic| walk_at "wb") => `(tactic| first
  | refine pw_add ?_
  | refine pw_sub ?_
  | refine pw_mul ?_
  | refine pw_fdiv ?_
  | refine pw_mod ?_
  )
local macro_rules | `(tactic| walk_at "wt") => `(tactic| first
  | (refine gTcmp ?_; walk_at "wd")
  | refine pwt_w ?_
  | refine pwt_not ?_
  | refine pwt_tru (fun _ => rfl) ?_
  )
local macro_rules | `(tactic| walk_at "wd") => `(tactic| first
  | refine pwt_eqS (by assumption) ?_
  | refine pwt_eq ?_
  | refine pwt_ne ?_
  | refine pwt_lt ?_
  | refine pwt_le ?_
  | refine pwt_gt ?_
  | refine pwt_ge ?_
  | refine pwt_inG (Txt.c_TWO_NOUNS (by assumption)) rfl ?_
  | refine pwt_inG (Txt.c_QUANTITIES (by assumption)) rfl ?_
  | refine pwt_inTup ?_
  | refine pwt_inLst ?_
  )
local macro_rules | `(tactic| walk_at "wl") => `(tactic| first
  | refine br_t rfl ?_
  | refine br_f rfl ?_
  | refine rb_t rfl ?_
  | refine rb_f rfl ?_
  | refine ⟨_, rfl, ?_⟩
  | refine ⟨_, _, rfl, rfl, ?_⟩
  | refine ⟨_, _, rfl, ?_⟩
  | refine ⟨rfl, ?_⟩
  | refine ⟨dp_ok _ rfl rfl, ?_⟩
  | refine ⟨_, _, _, rfl, rfl, rfl, ?_⟩
  | refine ⟨le_line (Nat.le_of_ble_eq_true rfl), ?_⟩
  | refine ⟨_, _, _, rfl, rfl, ?_⟩
  | exact rfl
  )
local macro_rules | `(tactic| walk_at "w1") => `(tactic| first
  | (refine gE ?_; walk_at "we")
  | (refine gT ?_; walk_at "wt")
  | (refine gA ?_; first | refine pwa_cons ?_ | refine pwa_nil ?_)
  | (refine gW ?_; first | refine pww_and ?_ | refine pww_or ?_ | refine pww_and1 ?_ | refine pww_or1 ?_)
  | (refine gS ?_; walk_at "nf"; first | refine sd_ret ?_ | refine sd_if ?_ | refine sd_newLN (by assumption) rfl (by walk_at "v") (Nat.le_of_ble_eq_true rfl) ?_ | refine sd_setN (by assumption) rfl (by walk_at "v") ?_ | refine sd_appendN rfl rfl (by walk_at "v") ?_ | refine sd_nil ?_)
  | (refine gP ?_; first | refine pwp_none ?_ | refine pwp_some ?_)
  | walk_at "wl"
  )
local macro_rules | `(tactic| walk_at "w") => `(tactic| repeat walk_at "w1")

section
variable {P : Program} {w : World} {K : PySem.W.Frag} {mg : Str → Option Value} {base : Heap}
section
variable {X : Cx} {δ : List Cell} {Q : D → List Cell → Prop} {k i : Nat} {y : Str} {e : Expr} {p p2 pos : Pos} {m : M}
theorem pe_nextO (T : FnE X.prog X.w X.K X.mg X.base "_law_next" 1 Pre_next R_next) (hr : Room k X.A) (hk : 1 ≤ k) (hg : Gl X "_law_next") (hN : X.N.findIdx? (fun z => z == y) = some i) (he : δ[i]? = some (Cell.ow m)) (hv : Vis X.env.scope y) (hm : IsStr m)
    (ha : Pw X e δ fun d => ∃ many : Int, d = .int many ∧ 0 < many ∧ many < 1000 ∧ ∀ (t : Int) m', 0 ≤ t → t < many → IsStr m' → Q (.int t) (δ.set i (.ow m'))) (hd : (y == ("__debug__" : Str)) = false := by decide) (hcd : (y == ("__classdict__" : Str)) = false := by decide)
    (hs : starEach [.Name y p2, e] X.env = (false, eval (.Name y p2) X.env) :: starEach [e] X.env := by rfl) (hs2 : starEach [e] X.env = [(false, eval e X.env)] := by rfl) (hpl : (backTo pos (starEach [e] X.env)).any (·.1) = false := by rfl) : Pe X (.Call (.Name "_law_next" p) [.Name y p2, e] [] pos) δ Q := by
  refine pe_eff (m := m) T hr hk hg hN he hv (pwa_cons (ha.imp ?_) hs2) (by decide) hd hcd hs hpl
  rintro d ⟨many, rfl, h0, h1, q⟩
  obtain ⟨L, c, kk, rfl⟩ := hm
  refine pwa_nil ⟨⟨L, c, kk, many, rfl, rfl, h0, h1⟩, ?_⟩
  rintro r m' ⟨many', t, e1, rfl, h2, h3, h4⟩
  cases e1
  exact q t m' h2 h3 h4
end
theorem rd_journal {C : Addr} (D0 : DebT K mg C) : FnRd P w K mg base C "journal" 2 (R_journal C) := by
  obtain ⟨f, fd, me, F⟩ := D0.jrn
  exact ⟨f, fd, _, D0.cl, me, F.binds (fun _ _ _ _ _ _ us hl => match us, hl with | [_], _ => rfl), fn_journal F D0.cl D0.n3⟩
theorem rd_assertions {C : Addr} (D0 : DebT K mg C) : FnRd P w K mg base C "assertions" 2 (R_assertions C) := by
  obtain ⟨f, fd, me, F⟩ := D0.asr
  exact ⟨f, fd, _, D0.cl, me, F.binds (fun _ _ _ _ _ _ us hl => match us, hl with | [_], _ => rfl), fn_assertions F D0.cl D0.n2⟩
theorem rd_sentences {C : Addr} (T : Txt K mg) (D0 : DebT K mg C) : FnRd P w K mg base C "sentences" 4 (R_sentences C) := by
  obtain ⟨f, fd, me, F⟩ := D0.sen
  exact ⟨f, fd, _, D0.cl, me, F.binds (fun _ _ _ _ _ _ us hl => match us, hl with | [_, _], _ => rfl), fn_sentences T F D0.cl D0.n2⟩
theorem ef_records {C : Addr} (T : Txt K mg) (D0 : DebT K mg C) (n m : Nat) (hist : List (List Asr)) (cs : List Cmd) : FnEf P w K mg base C "records" 8 (Pre_records C n m hist cs) (R_records C n m hist cs) := by
  obtain ⟨f, fd, me, F⟩ := D0.rcd
  exact ⟨f, fd, _, D0.cl, me, F.binds (fun _ _ _ _ _ _ us hl => match us, hl with | [_], _ => rfl), fn_records T F D0.cl D0.n1 D0.n2 D0.n3 n m hist cs⟩
/-- a debate's history -/
structure Hs (n m : Nat) (hist : List (List Asr)) (cs : List Cmd) (l : List Asr) : Prop where
  last : hist.getLast? = some l
  len : hist.length = cs.length + 1
  ok : ∀ l ∈ hist, AsrOk n m l
  step : ∀ k c, cs[k]? = some c → whyC n m (hist.getD k []) c = none ∧ hist.getD (k + 1) [] = behindA (hist.getD k []) c ∧ c.ok n m
  first : hist.getD 0 [] = []
theorem Hs.init (n m : Nat) : Hs n m [[]] [] [] := ⟨rfl, rfl, fun l hl => by simp at hl; subst hl; exact ⟨by simp, fun a ha => nomatch ha⟩, fun k c h => by simp at h, rfl⟩
theorem Hs.lok {n m : Nat} {hist : List (List Asr)} {cs : List Cmd} {l : List Asr} (h : Hs n m hist cs l) : AsrOk n m l := h.ok l (List.mem_of_getLast? h.last)
theorem Hs.more {n m : Nat} {hist : List (List Asr)} {cs : List Cmd} {l : List Asr} {c : Cmd} (h : Hs n m hist cs l) (hc : c.ok n m) (hw : whyC n m l c = none) : Hs n m (hist ++ [behindA l c]) (cs ++ [c]) (behindA l c) := by
  have hl := h.len
  have old : ∀ k, k < hist.length → (hist ++ [behindA l c]).getD k [] = hist.getD k [] := fun k hk => by
    rw [List.getD_eq_getElem?_getD, List.getD_eq_getElem?_getD, List.getElem?_append_left hk]
  have lastD : hist.getD cs.length [] = l := by
    have := h.last
    rw [List.getLast?_eq_getElem?] at this
    rw [List.getD_eq_getElem?_getD, show cs.length = hist.length - 1 by omega, this]
    rfl
  refine ⟨by rw [List.getLast?_append]; rfl, by rw [List.length_append, List.length_append, List.length_singleton, List.length_singleton]; omega, fun x hx => ?_, fun k d hk => ?_, by rw [old 0 (by omega)]; exact h.first⟩
  · rcases List.mem_append.mp hx with h1 | h1
    · exact h.ok x h1
    · rw [List.mem_singleton.mp h1]
      exact why_len hw h.lok hc
  · by_cases hlt : k < cs.length
    · rw [List.getElem?_append_left hlt] at hk
      rw [old k (by omega), old (k + 1) (by omega)]
      exact h.step k d hk
    · have hk2 := (List.getElem?_eq_some_iff.mp hk).1
      rw [List.length_append, List.length_singleton] at hk2
      have e : k = cs.length := by omega
      subst e
      rw [List.getElem?_append_right (Nat.le_refl _), Nat.sub_self] at hk
      cases hk
      rw [old _ (by omega), lastD]
      refine ⟨hw, ?_, hc⟩
      rw [List.getD_eq_getElem?_getD, List.getElem?_append_right (by omega), show cs.length + 1 - hist.length = 0 by omega]
      rfl
def spLaw (K : PySem.W.Frag) : Sp := fun vs H Q _ => ∃ (a : Addr) (ns : List Int), vs = [.ref a] ∧ SqL K H a (ns.map V.int) ∧ ns.length ≤ 63 ∧ ∀ H', Q (.bl true) H'
abbrev lawN : List Str := ["_law_script", "_law_stream_here", "_law_signature_here", "_law_debate", "_law_state", "_law_journal", "_law_turn", "_law_command_here", "_law_due", "_law_here", "_law_model", "_law_speaker"]
local macro_rules | `(tactic| walk_at "nf") => `(tactic| first | refine nfS (δ' := [_, _, _, _, _, _, _, _, _, _, _, _]) rfl ?_ | refine nfE (δ' := [_, _, _, _, _, _, _, _, _, _, _, _]) rfl ?_ | refine nfT (δ' := [_, _, _, _, _, _, _, _, _, _, _, _]) rfl ?_ | refine nfTs (δ' := [_, _, _, _, _, _, _, _, _, _, _, _]) rfl ?_ | refine nfI (δ' := [_, _, _, _, _, _, _, _, _, _, _, _]) rfl ?_ | refine nfG (δ' := [_, _, _, _, _, _, _, _, _, _, _, _]) rfl ?_ | refine nfX (δ' := [_, _, _, _, _, _, _, _, _, _, _, _]) rfl ?_ | refine nfXO (δ' := [_, _, _, _, _, _, _, _, _, _, _, _]) rfl ?_)
theorem fn_law_top {C Cn fI : Addr} (T : Txt K mg) (TL : PySem.LowX.LowTxt K mg Cn fI) (D0 : DebT K mg C) {f : Addr} {cdv : Value} {A : Around} {outer : List Env} {s : Shared} {H : Hp} {E : XK} (hr : Room 13 (A.deeper (envOfC "law" (defScope s_law) s.heap.objs.size f cdv))) {st : M} (im : IsStr st)
    (tail : ∀ (st : M) (n m : Nat) (hist : List (List Asr)) (cs : List Cmd) (l : List Asr) (c6 c7 c8 : Cell), SigOk n m → Hs n m hist cs l → cs.length ≤ 16 →
      Sd (fx P w K mg base lawN "law" (defScope s_law) f cdv A outer s H E) ((defBody s_law).drop 6) [.un, .ow st, .im (sigD n m), .ow (debM C n m hist cs), .im (asrsD l), .im (.tup (cs.map cmdD)), c6, c7, c8, .un, .un, .un] (fun _ => False) (fun d _ => d = .bl true)) :
    Sd (fx P w K mg base lawN "law" (defScope s_law) f cdv A outer s H E) ((defBody s_law).drop 1) [.un, .ow st, .un, .un, .un, .un, .un, .un, .un, .un, .un, .un] (fun _ => False) (fun d _ => d = .bl true) := by
  have nd := sc_law.nd
  have F1 : FnE P w K mg base "_law_next" 1 Pre_next R_next := fn_next T
  have F2 : FnE P w K mg base "_law_signature" 2 Pre_str R_signature := fn_signature T
  have F3 : FnE P w K mg base "_law_command" 3 Pre_sentence R_command := fn_command T
  have F4 : FnP P w K mg base "_law_why_not" 10 R_why_not := fn_why_not T
  have F5 : FnP P w K mg base "_law_behind" 1 R_law_behind := fn_law_behind T
  have E0 : FnP P w K mg base "_law_equal" 2 (R_equal 0) := fn_equal T 0
  have E1 : FnP P w K mg base "_law_equal" 3 (R_equal 1) := fn_equal T 1
  have E4 : FnP P w K mg base "_law_equal" 6 (R_equal 4) := fn_equal T 4
  have J1 : FnRd P w K mg base C "assertions" 2 (R_assertions C) := rd_assertions D0
  have J2 : FnRd P w K mg base C "journal" 2 (R_journal C) := rd_journal D0
  have zz : ∀ {k : Nat}, k ≤ 1000 → k < sizeLine := fun h => Nat.lt_of_le_of_lt h (by decide)
  refine sd_setE nd rfl (by walk_at "v") (pe_eff F2 hr (by decide) rfl rfl rfl (by walk_at "v") (pwa_nil ⟨⟨im, rfl⟩, ?_⟩))
  rintro r st ⟨⟨n, m, rfl, ok, hn3⟩, im⟩
  have FI : FnI P w K mg base "Debate" C 4 (Pre_init n m) (R_init C n m) := fn_init T D0 n m
  walk_at "nf"
  refine sd_mkO FI hr (by decide) rfl nd rfl (by walk_at "v") (Nat.le_of_ble_eq_true rfl) (pwa_cons (pw_nm rfl (by walk_at "v") rfl (pwa_nil ⟨⟨rfl, ok⟩, fun mm hm => ?_⟩)))
  cases hm
  walk_at "nf"
  refine sd_setN nd rfl (by walk_at "v") (pw_tup (pwa_nil ⟨le_line (Nat.le_of_ble_eq_true rfl), ?_⟩))
  walk_at "nf"
  refine sd_setN nd rfl (by walk_at "v") (pw_tup (pwa_nil ⟨le_line (Nat.le_of_ble_eq_true rfl), ?_⟩))
  walk_at "nf"
  refine sd_forE (is := [6]) PassesOwn.never rfl (pei_range1 T.b_range (pea_cons (pe_nextO F1 hr (by decide) rfl rfl rfl (by walk_at "v") im (pw_int ⟨17, rfl, by decide, by decide, fun t st1 t0 t1 im1 => pea_nil ⟨t, rfl, by omega, by omega, ?_⟩⟩))))
  have hlen : (rgI t.toNat).length = t.toNat := len_rgI _
  refine ⟨Int, rgI t.toNat, D.int, fun i δ' => ∃ st hist cs l c6 c7 c8, δ' = [.un, .ow st, .im (sigD n m), .ow (debM C n m hist cs), .im (asrsD l), .im (.tup (cs.map cmdD)), c6, c7, c8, .un, .un, .un] ∧ IsStr st ∧ Hs n m hist cs l ∧ cs.length ≤ i, rgD0 _, ⟨st1, [[]], [], [], .un, .un, .un, rfl, im1, Hs.init n m, Nat.zero_le _⟩, ?_, ?_⟩
  · rintro i t δ' hi ⟨st, hist, cs, l, c6, c7, c8, rfl, im, hs, hci⟩
    have hi16 : i < 16 := by
      have := (List.getElem?_eq_some_iff.mp hi).1
      rw [hlen] at this
      omega
    refine pwg_nm nd rfl (by walk_at "v") ?_
    walk_at "nf"
    refine sd_setE nd rfl (by walk_at "v") (pe_eff F3 hr (by decide) rfl rfl rfl (by walk_at "v") (pwa_cons (pw_nm rfl (by walk_at "v") rfl (pwa_nil ⟨⟨im, n, m, rfl, ok⟩, ?_⟩))))
    rintro r st2 ⟨n', m', c, e2, rfl, hc, im2⟩
    cases e2
    have lok := hs.lok
    have F6 : FnE P w K mg base "_law_told" 13 (Pre_act C n m hist cs l c) (R_told C n m hist cs l c) := fn_told T TL D0 n m hist cs l c
    have dok : DebOk n m hist cs l := ⟨ok, hs.last, lok, hs.len, by omega⟩
    walk_at "nf"
    refine sd_setN nd rfl (by walk_at "v") (pw_call F4 hr (by decide) rfl ?_)
    walk_at "w"
    refine ⟨_, ⟨n, m, l, c, rfl, ok, lok, hc, rfl⟩, ?_⟩
    -- the two looks
    have look : ∀ (hist : List (List Asr)) (cs : List Cmd) (l : List Asr) (c8 : Cell), Hs n m hist cs l → cs.length ≤ 17 → ∀ N : List Cell → Prop, N [.un, .ow st2, .im (sigD n m), .ow (debM C n m hist cs), .im (asrsD l), .im (.tup (cs.map cmdD)), .im (.int t), .im (cmdD c), c8, .un, .un, .un] →
        Sd (fx P w K mg base lawN "law" (defScope s_law) f cdv A outer s H E) ((forBody ((defBody s_law).drop 5)).drop 4) [.un, .ow st2, .im (sigD n m), .ow (debM C n m hist cs), .im (asrsD l), .im (.tup (cs.map cmdD)), .im (.int t), .im (cmdD c), c8, .un, .un, .un] N (fun d _ => d = .bl true) := by
      intro hist cs l c8 hs hc17 N hN
      refine sd_if (pwt_not (pwt_tru (fun _ => rfl) (pw_call E4 hr (by decide) rfl (pwa_cons (pw_lst (pwa_cons (pw_rd0 J1 hr (by decide) rfl rfl (by walk_at "v") ?_) rfl))))))
      have hla : atI (hist.map asrsD) (-1) = some (asrsD l) := atI_last (by rw [List.getLast?_map, hs.last]; rfl)
      have l8 := hs.lok.1
      refine ⟨asrsD l, ⟨rfl, _, _, _, rfl, hla⟩, pwa_cons (pw_rd0 J2 hr (by decide) rfl rfl (by walk_at "v") ⟨.tup (cs.map cmdD), ⟨rfl, _, _, rfl⟩, pwa_nil ⟨le_line (Nat.le_of_ble_eq_true rfl), ?_⟩⟩)⟩
      refine pwa_cons (pw_lst (pwa_cons (pw_nm rfl (by walk_at "v") rfl (pwa_cons (pw_nm rfl (by walk_at "v") rfl (pwa_nil ⟨le_line (Nat.le_of_ble_eq_true rfl), pwa_nil ⟨.bl true, ⟨_, rfl, .lst _ (by simp) fun d hd => ?_, rfl⟩, true, rfl, fun h => (by cases h), fun _ => sd_nil (sd_nil hN)⟩⟩))))))
      simp only [List.mem_cons, List.not_mem_nil, or_false] at hd
      rcases hd with rfl | rfl
      · exact eqb_asrs (by omega)
      · exact eqb_cmds (by omega)
    cases hw : whyC n m l c with
    | none =>
      rw [why_none hw]
      refine sd_if (pwt_eq (pw_nm rfl (by walk_at "v") rfl (pw_str ⟨true, rfl, fun _ => ?_, fun h => (by cases h)⟩)))
      refine sd_setN nd rfl (by walk_at "v") (pw_call F5 hr (by decide) rfl ?_)
      walk_at "w"
      refine ⟨_, ⟨l, c, rfl, lok.1, rfl⟩, ?_⟩
      walk_at "nf"
      refine sd_setN nd rfl (by walk_at "v") (pw_catT (pw_nm rfl (by walk_at "v") rfl (pw_tup (pwa_cons (pw_nm rfl (by walk_at "v") rfl (pwa_nil ⟨le_line (Nat.le_of_ble_eq_true rfl), _, _, rfl, rfl, ?_, ?_⟩))))))
      · rw [List.length_map]
        exact Nat.le_of_lt (zz (by show cs.length + 1 ≤ 1000; omega))
      have ej : cs.map cmdD ++ [cmdD c] = (cs ++ [c]).map cmdD := by rw [List.map_append]; rfl
      rw [ej]
      walk_at "nf"
      refine sd_setN nd rfl (by walk_at "v") (pw_len T.b_len (pwa_cons (pw_nm rfl (by walk_at "v") rfl (pwa_nil ⟨_, _, rfl, rfl, ?_⟩))))
      rw [List.length_map, List.length_append, List.length_singleton]
      walk_at "nf"
      refine sd_nil (sd_ifE (pet_notE (pet_val (ha := pe_callE E0 hr (by decide) rfl (pea_cons (pe_eff F6 hr (by decide) rfl rfl rfl (by walk_at "v") (pwa_cons (pw_nm rfl (by walk_at "v") rfl (pwa_nil ⟨⟨rfl, rfl, dok, hc⟩, ?_⟩)))))))))
      rintro r m' (⟨_, rfl, rfl⟩ | ⟨s, h, _⟩)
      · refine pea_cons (pe_w (pw_nm rfl (by walk_at "v") rfl (pea_nil ⟨.bl true, ⟨_, rfl, Eqb.int _, rfl⟩, true, rfl, fun h => (by cases h), fun _ => sd_nil ?_⟩)))
        have hs2 := hs.more hc hw
        exact look _ _ _ _ hs2 (by rw [List.length_append, List.length_singleton]; omega) _ ⟨st2, _, _, _, _, _, _, rfl, im2, hs2, by rw [List.length_append, List.length_singleton]; omega⟩
      · rw [hw] at h; cases h
    | some s =>
      obtain ⟨e1, e2⟩ := why_some hw
      rw [e1]
      refine sd_if (pwt_eq (pw_nm rfl (by walk_at "v") rfl (pw_str ⟨false, e2, fun h => (by cases h), fun _ => ?_⟩)))
      refine sd_setN nd rfl (by walk_at "v") (pw_tup (pwa_cons (pw_str (pwa_cons (pw_nm rfl (by walk_at "v") rfl (pwa_nil ⟨le_line (Nat.le_of_ble_eq_true rfl), ?_⟩))))))
      walk_at "nf"
      refine sd_nil (sd_ifE (pet_notE (pet_val (ha := pe_callE E1 hr (by decide) rfl (pea_cons (pe_eff F6 hr (by decide) rfl rfl rfl (by walk_at "v") (pwa_cons (pw_nm rfl (by walk_at "v") rfl (pwa_nil ⟨⟨rfl, rfl, dok, hc⟩, ?_⟩)))))))))
      rintro r m' (⟨h, _⟩ | ⟨s', h, rfl, rfl⟩)
      · rw [hw] at h; cases h
      · rw [hw] at h
        cases h
        refine pea_cons (pe_w (pw_nm rfl (by walk_at "v") rfl (pea_nil ⟨.bl true, ⟨_, rfl, Eqb.tup _ (by simp) fun d hd => ?_, rfl⟩, true, rfl, fun h => (by cases h), fun _ => sd_nil ?_⟩)))
        · simp only [List.mem_cons, List.not_mem_nil, or_false] at hd
          rcases hd with rfl | rfl <;> exact .str _
        · exact look _ _ _ _ hs (by omega) _ ⟨st2, _, _, _, _, _, _, rfl, im2, hs, by omega⟩
  · rintro δ' ⟨st, hist, cs, l, c6, c7, c8, rfl, im, hs, hci⟩
    rw [hlen] at hci
    exact tail st n m hist cs l c6 c7 c8 ok hs (by omega)
end
end AL
namespace AL
open PySem PySem.Spec PyProof.Rows L2 Mi
local macro_rules | `(tactic| walk_at "v") => `(tactic| first | exact Or.inl rfl | exact Or.inr rfl | exact Or.inr (Or.inl rfl) | exact Or.inr (Or.inr rfl))
local macro_rules | `(tactic| walk_at "we") => `(tactic| first
  | refine pw_nm rfl (by walk_at "v") rfl ?_
  | refine pw_int ?_
  | refine pw_str ?_
  | refine pw_bl ?_
  | (refine gEcmp ?_; walk_at "wc")
  | refine pw_ix ?_
  | (refine gEcall ?_; walk_at "wf")
  | refine pw_tup ?_
  | refine AL.pw_and ?_
  | refine AL.pw_or ?_
  | refine AL.pw_one ?_
  | refine AL.pw_not ?_
  | (refine gEbin ?_; walk_at "wb")
  | refine pw_slice ?_
  | refine pw_lst ?_
  | refine pw_ife ?_
  | refine pw_neg ?_
  | refine pw_non ?_
  | refine pw_gint rfl (Txt.c_MOST_NOUNS (by assumption)) ?_
  | refine pw_gint rfl (Txt.c_MOST_VERBS (by assumption)) ?_
  | refine pw_gint rfl (Txt.c_MOST_PREMISES (by assumption)) ?_
  | refine pw_gint rfl (Txt.c_MOST_SPEAKER (by assumption)) ?_
  | refine pw_gint rfl (Txt.c_MOST_ASSERTIONS (by assumption)) ?_
  | refine pw_gint rfl (Txt.c_MOST_COMMANDS (by assumption)) ?_
  )
local macro_rules | `(tactic| walk_at "wc") => `(tactic| first
  | refine pw_eqS (by assumption) ?_
  | refine pw_eq ?_
  | refine pw_ne ?_
  | refine pw_chainLe ?_
  | refine pw_lt ?_
  | refine pw_le ?_
  | refine pw_gt ?_
  | refine pw_ge ?_
  | refine pw_inG (Txt.c_TWO_NOUNS (by assumption)) rfl ?_
  | refine pw_inG (Txt.c_QUANTITIES (by assumption)) rfl ?_
  )
local macro_rules | `(tactic| walk_at "wf") => `(tactic| first
  | refine pw_len (Txt.b_len (by assumption)) ?_
  | refine pw_isi_int (Txt.b_isinstance (by assumption)) (Txt.b_int (by assumption)) ?_
  | refine pw_isi_bool (Txt.b_isinstance (by assumption)) (Txt.b_bool (by assumption)) ?_
  | refine pw_isi_str (Txt.b_isinstance (by assumption)) (Txt.b_str (by assumption)) ?_
  | refine pw_isi_tuple (Txt.b_isinstance (by assumption)) (Txt.b_tuple (by assumption)) ?_
  | refine pw_isi_list (Txt.b_isinstance (by assumption)) (Txt.b_list (by assumption)) ?_
  | refine pw_tuple (Txt.b_tuple (by assumption)) ?_
  | refine pw_any rfl (Txt.b_any (by assumption)) ?_
  | refine pw_all rfl (Txt.b_all (by assumption)) ?_
  | refine pw_sum rfl (Txt.b_sum (by assumption)) ?_
  | refine pw_min2 rfl (Txt.b_min (by assumption)) ?_
  | refine pw_max2 rfl (Txt.b_max (by assumption)) ?_
  | refine pw_toInt (Txt.b_int (by assumption)) ?_
  | refine pw_call (by assumption) (by assumption) (by decide) rfl ?_
  )
local macro_rules | `(tactic| walk_at "wb") => `(tactic| first
  | refine pw_add ?_
  | refine pw_sub ?_
  | refine pw_mul ?_
  | refine pw_fdiv ?_
  | refine pw_mod ?_
  )
local macro_rules | `(tactic| walk_at "wt") => `(tactic| first
  | (refine gTcmp ?_; walk_at "wd")
  | refine pwt_w ?_
  | refine pwt_not ?_
  | refine pwt_tru (fun _ => rfl) ?_
  )
local macro_rules | `(tactic| walk_at "wd") => `(tactic| first
  | refine pwt_eqS (by assumption) ?_
  | refine pwt_eq ?_
  | refine pwt_ne ?_
  | refine pwt_lt ?_
  | refine pwt_le ?_
  | refine pwt_gt ?_
  | refine pwt_ge ?_
  | refine pwt_inG (Txt.c_TWO_NOUNS (by assumption)) rfl ?_
  | refine pwt_inG (Txt.c_QUANTITIES (by assumption)) rfl ?_
  | refine pwt_inTup ?_
  | refine pwt_inLst ?_
  )
local macro_rules | `(tactic| walk_at "wl") => `(tactic| first
  | refine br_t rfl ?_
  | refine br_f rfl ?_
  | refine rb_t rfl ?_
  | refine rb_f rfl ?_
  | refine ⟨_, rfl, ?_⟩
  | refine ⟨_, _, rfl, rfl, ?_⟩
  | refine ⟨_, _, rfl, ?_⟩
  | refine ⟨rfl, ?_⟩
  | refine ⟨dp_ok _ rfl rfl, ?_⟩
  | refine ⟨_, _, _, rfl, rfl, rfl, ?_⟩
  | refine ⟨le_line (Nat.le_of_ble_eq_true rfl), ?_⟩
  | refine ⟨_, _, _, rfl, rfl, ?_⟩
  | exact rfl
  )
local macro_rules | `(tactic| walk_at "w1") => `(tactic| first
  | (refine gE ?_; walk_at "we")
  | (refine gT ?_; walk_at "wt")
  | (refine gA ?_; first | refine pwa_cons ?_ | refine pwa_nil ?_)
  | (refine gW ?_; first | refine pww_and ?_ | refine pww_or ?_ | refine pww_and1 ?_ | refine pww_or1 ?_)
  | (refine gS ?_; walk_at "nf"; first | refine sd_ret ?_ | refine sd_if ?_ | refine sd_newLN (by assumption) rfl (by walk_at "v") (Nat.le_of_ble_eq_true rfl) ?_ | refine sd_setN (by assumption) rfl (by walk_at "v") ?_ | refine sd_appendN rfl rfl (by walk_at "v") ?_ | refine sd_nil ?_)
  | (refine gP ?_; first | refine pwp_none ?_ | refine pwp_some ?_)
  | walk_at "wl"
  )
local macro_rules | `(tactic| walk_at "w") => `(tactic| repeat walk_at "w1")

section
variable {P : Program} {w : World} {K : PySem.W.Frag} {mg : Str → Option Value} {base : Heap}
local macro_rules | `(tactic| walk_at "wd") => `(tactic| refine pwt_notN ?_)
local macro_rules | `(tactic| walk_at "nf") => `(tactic| first | refine nfS (δ' := [_, _, _, _, _, _, _, _, _, _, _, _]) rfl ?_ | refine nfE (δ' := [_, _, _, _, _, _, _, _, _, _, _, _]) rfl ?_ | refine nfT (δ' := [_, _, _, _, _, _, _, _, _, _, _, _]) rfl ?_ | refine nfTs (δ' := [_, _, _, _, _, _, _, _, _, _, _, _]) rfl ?_ | refine nfI (δ' := [_, _, _, _, _, _, _, _, _, _, _, _]) rfl ?_ | refine nfG (δ' := [_, _, _, _, _, _, _, _, _, _, _, _]) rfl ?_ | refine nfX (δ' := [_, _, _, _, _, _, _, _, _, _, _, _]) rfl ?_ | refine nfXO (δ' := [_, _, _, _, _, _, _, _, _, _, _, _]) rfl ?_)
theorem fn_law_tail {C Cn fI : Addr} (T : Txt K mg) (TL : PySem.LowX.LowTxt K mg Cn fI) (D0 : DebT K mg C) {f : Addr} {cdv : Value} {A : Around} {outer : List Env} {s : Shared} {H : Hp} {E : XK} (hr : Room 13 (A.deeper (envOfC "law" (defScope s_law) s.heap.objs.size f cdv)))
    (st : M) (n m : Nat) (hist : List (List Asr)) (cs : List Cmd) (l : List Asr) (c6 c7 c8 : Cell) (ok : SigOk n m) (hs : Hs n m hist cs l) (hc16 : cs.length ≤ 16) :
      Sd (fx P w K mg base lawN "law" (defScope s_law) f cdv A outer s H E) ((defBody s_law).drop 6) [.un, .ow st, .im (sigD n m), .ow (debM C n m hist cs), .im (asrsD l), .im (.tup (cs.map cmdD)), c6, c7, c8, .un, .un, .un] (fun _ => False) (fun d _ => d = .bl true) := by
  have nd := sc_law.nd
  have F5 : FnP P w K mg base "_law_behind" 1 R_law_behind := fn_law_behind T
  have F6 : FnP P w K mg base "_law_said" 1 R_said_by := fn_law_said T
  have F7 : FnP P w K mg base "_law_satisfies" 5 R_satisfies := fn_satisfies T
  have F8 : FnP P w K mg base "_law_canonical" 10 R_canonical := fn_law_canonical T TL
  have E3 : FnP P w K mg base "_law_equal" 5 (R_equal 3) := fn_equal T 3
  have E4 : FnP P w K mg base "_law_equal" 6 (R_equal 4) := fn_equal T 4
  have J1 : FnRd P w K mg base C "sentences" 4 (R_sentences C) := rd_sentences T D0
  have J2 : FnEf P w K mg base C "records" 8 (Pre_records C n m hist cs) (R_records C n m hist cs) := ef_records T D0 n m hist cs
  have hla : atI (hist.map asrsD) (-1) = some (asrsD l) := atI_last (by rw [List.getLast?_map, hs.last]; rfl)
  have l8 := hs.lok.1
  have hlen := hs.len
  refine sd_if (pwt_not (pwt_tru (fun _ => rfl) (pw_call E3 hr (by decide) rfl (pwa_cons ?_ rfl))))
  refine pw_lcM (own := [("_law_speaker", 11)]) rfl nd (blk_of sc_law rfl rfl (by decide +kernel)) (pwi_range1 T.b_range ?_)
  walk_at "w"
  refine ⟨by omega, by omega, Int, rgI 6, D.int, fun sp => sensD (saidBy l sp), [11], rgD0 6, by decide, ?_, ?_⟩
  · intro sp hsp _ _ _ _ _
    have hsp2 := mem_rgI.mp hsp
    refine pwg_nm nd rfl (by walk_at "v") ?_
    intro _ _ _ _ _; walk_at "nf"
    refine pw_rd1 J1 hr (by decide) rfl rfl (by walk_at "v") (pw_nm rfl (by walk_at "v") rfl ⟨_, ⟨sp, l, _, _, _, rfl, rfl, hla, l8, hsp2.1, by have := hsp2.2; omega, rfl⟩, rfl⟩)
  refine pwa_cons ?_ rfl
  refine pw_lcM (own := [("_law_speaker", 11)]) rfl nd (blk_of sc_law rfl rfl (by decide +kernel)) (pwi_range1 T.b_range ?_)
  walk_at "w"
  refine ⟨by omega, by omega, Int, rgI 6, D.int, fun sp => sensD (saidBy l sp), [11], rgD0 6, by decide, ?_, ?_⟩
  · intro sp hsp _ _ _ _ _
    refine pwg_nm nd rfl (by walk_at "v") ?_
    intro _ _ _ _ _; walk_at "nf"
    walk_at "w"
    exact ⟨_, ⟨l, sp, rfl, l8, rfl⟩, rfl⟩
  refine pwa_nil ⟨.bl true, ⟨_, rfl, .lst _ (by simp [rgI]) fun d hd => ?_, rfl⟩, true, rfl, fun h => (by cases h), fun _ => sd_nil ?_⟩
  · obtain ⟨sp, _, rfl⟩ := List.mem_map.mp hd
    exact eqb_sens (Nat.le_trans (saidBy_len l sp) (by omega))
  refine sd_setN nd rfl (by walk_at "v") (pw_tup (pwa_nil ⟨le_line (Nat.le_of_ble_eq_true rfl), ?_⟩))
  walk_at "nf"
  refine sd_forE (is := [7, 10]) PassesOwn.never rfl (pei_tup (pe_ef0 J2 hr (by decide) rfl rfl (by walk_at "v") ⟨⟨rfl, rfl, ⟨ok, hlen, by omega, hs.ok⟩⟩, ?_⟩))
  rintro r m' ⟨rfl, rfl⟩
  have hin : ∀ k, k < hist.length → AsrOk n m (hist.getD k []) := fun k hk => by
    rw [List.getD_eq_getElem?_getD, List.getElem?_eq_getElem hk]
    exact hs.ok _ (List.getElem_mem hk)
  refine ⟨_, rfl, Cmd × Nat, cs.zipIdx, fun p => recD n m hist p.2 p.1, fun i δ' => ∃ c7 c10, δ' = [.un, .ow st, .im (sigD n m), .ow (debM C n m hist cs), .im (asrsD l), .im (.tup (cs.map cmdD)), c6, c7, c8, .im (asrsD (hist.getD i [])), c10, .un], rfl, ⟨c7, .un, ?_⟩, ?_, ?_⟩
  · rw [hs.first]; rfl
  · rintro i ⟨c, k⟩ δ' hx ⟨c7, c10, rfl⟩
    have hk : k = i ∧ cs[i]? = some c ∧ i < cs.length := by
      have h1 := List.getElem?_eq_some_iff.mp hx
      obtain ⟨h2, h3⟩ := h1
      rw [List.length_zipIdx] at h2
      rw [List.getElem_zipIdx] at h3
      cases h3
      exact ⟨by omega, List.getElem?_eq_getElem h2, h2⟩
    obtain ⟨rfl, hck, hk⟩ := hk
    obtain ⟨s1, s2, s3⟩ := hs.step k c hck
    have h0 := hin k (by omega)
    have h1 := hin (k + 1) (by omega)
    dsimp only
    cases c with
    | wd j =>
      unfold recD
      refine pwg_pair nd rfl rfl rfl (by walk_at "v") (by walk_at "v") ?_
      walk_at "nf"
      refine sd_setN nd rfl (by walk_at "v") (pw_call F5 hr (by decide) rfl ?_)
      walk_at "w"
      refine ⟨_, ⟨_, .wd j, rfl, h0.1, rfl⟩, ?_⟩
      rw [← s2]
      walk_at "nf"
      walk_at "w"
      exact ⟨_, _, rfl⟩
    | assert sp x =>
      unfold recD
      refine pwg_pair nd rfl rfl rfl (by walk_at "v") (by walk_at "v") ?_
      walk_at "nf"
      refine sd_setN nd rfl (by walk_at "v") (pw_call F5 hr (by decide) rfl ?_)
      walk_at "w"
      refine ⟨_, ⟨_, .assert sp x, rfl, h0.1, rfl⟩, ?_⟩
      have hcf : conflictsOf n m (saidBy (hist.getD (k + 1) []) sp) = [] := by rw [s2]; exact why_conf s1
      have pr := said_prem ok h1 sp
      obtain ⟨mo1, mo2⟩ := model_ok pr
      have hsat := model_sat pr.2.2 hcf
      rw [← s2]
      walk_at "nf"
      walk_at "w"
      refine ⟨_, ⟨_, sp, rfl, h1.1, rfl⟩, pwa_nil ⟨_, ⟨n, m, _, _, rfl, mo1, pr.2.2, rfl⟩, ?_⟩⟩
      rw [hsat]
      refine ⟨true, rfl, fun h => (by cases h), fun _ => ?_⟩
      refine sd_if (pwt_not (pwt_tru (fun _ => rfl) (pw_call E4 hr (by decide) rfl ?_)))
      walk_at "w"
      refine ⟨_, ⟨_, sp, rfl, h1.1, rfl⟩, ?_⟩
      walk_at "w"
      refine ⟨_, ⟨n, m, _, rfl, pr, hcf, rfl⟩, ?_⟩
      walk_at "w"
      exact ⟨.bl true, ⟨_, rfl, eqb_model mo2, rfl⟩, true, rfl, fun h => (by cases h), fun _ => sd_nil (sd_nil (sd_nil (sd_nil ⟨_, _, rfl⟩)))⟩
  · rintro δ' ⟨c7, c10, rfl⟩
    walk_at "w"
local macro_rules | `(tactic| walk_at "nf") => `(tactic| first | refine nfS (δ' := [_, _, _, _, _, _, _, _, _, _, _, _]) rfl ?_ | refine nfE (δ' := [_, _, _, _, _, _, _, _, _, _, _, _]) rfl ?_ | refine nfT (δ' := [_, _, _, _, _, _, _, _, _, _, _, _]) rfl ?_ | refine nfTs (δ' := [_, _, _, _, _, _, _, _, _, _, _, _]) rfl ?_ | refine nfI (δ' := [_, _, _, _, _, _, _, _, _, _, _, _]) rfl ?_ | refine nfG (δ' := [_, _, _, _, _, _, _, _, _, _, _, _]) rfl ?_ | refine nfX (δ' := [_, _, _, _, _, _, _, _, _, _, _, _]) rfl ?_ | refine nfXO (δ' := [_, _, _, _, _, _, _, _, _, _, _, _]) rfl ?_)
theorem fn_law {C Cn fI f : Addr} {fd : FuncData} (T : Txt K mg) (TL : PySem.LowX.LowTxt K mg Cn fI) (D0 : DebT K mg C) (F : Fun K "law" "law" s_law f fd) : FnOk P w K mg base CX0 14 f fd ["_law_script"] (spLaw K) := by
  obtain ⟨fs, fds, c1, Fs⟩ := T.d_law_stream
  have FS : FnOk P w K mg base CX0 1 fs fds ["_law_script"] (spStream K) := fn_stream T Fs
  have bS : Binds K fds ["_law_script"] [] := Fs.binds (fun _ _ _ _ _ _ us hl => match us, hl with | [_], _ => rfl)
  have nd := sc_law.nd
  refine F.ok sc_law (fun vs H Q E ⟨a, ns, e, _⟩ => by rw [e]; rfl) fun cdv A outer s H vs Q E hr ⟨a, ns, e, hS, hl, q⟩ => ⟨_, pss_cons (ps_set (i := 1) nd rfl (Or.inl rfl) (pe_call FS (hr.mono (by decide)) rfl c1 Fs.kp bS .nil pass0 (pa_cons (pv 0) pa_nil))) pss_s, ?_⟩
  subst e
  refine ⟨_, rfl, a, ns, rfl, hS, fun q0 p hq hp => ?_⟩
  have npq : p ≠ q0 := fun z => by subst z; rw [upd_same] at hp; cases hp
  have main := fn_law_top (P := P) (w := w) (base := base) T TL D0 (outer := outer) (E := E) (H := H) hr (st := strM ns 0 0) ⟨ns, 0, 0, rfl⟩ (fun st n m hist cs l c6 c7 c8 ok hs h16 => fn_law_tail (P := P) (w := w) (base := base) T TL D0 hr st n m hist cs l c6 c7 c8 ok hs h16)
  let G : Hp := upd (fun _ => none) q0 (.lst (ns.map V.int))
  have hG : G q0 = some (.lst (ns.map V.int)) := upd_same
  have sg : Same G (upd (upd H q0 (.lst (ns.map V.int))) p (.lst [.ref q0, .int 0, .int 0])) := fun b o e => by
    by_cases h : b = q0
    · subst h
      rw [hG] at e
      rw [upd_ne npq.symm, upd_same]
      exact e
    · have : G b = none := upd_ne h
      rw [this] at e; cases e
  refine main.run (fun _ => none) (fun _ => none) G _ _ ⟨⟨sg, fun b o e => (nomatch e), fun b o e => (nomatch e), fun b o e => (nomatch e)⟩, [p], ?_, by simp, fun b hb => ?_⟩ _ (fun G' H' σ' δ' o e => e.elim) fun v d G' H' σ' δ' o dt e => ?_
  · refine .un (Sl.ow (g := [p]) (f := []) ⟨rfl, by simp; decide, [.ref q0, .int 0, .int 0], upd_same, .cons (.lst hG ?_ (dts_ints ns)) (.cons (.int 0) (.cons (.int _) .nil))⟩ (.un (.un (.un (.un (.un (.un (.un (.un (.un (.un .nil)))))))))))
    rw [List.length_map]
    exact le_line (by omega)
  · simp at hb
    subst hb
    exact ⟨upd_ne npq, rfl⟩
  · subst e
    cases dt
    exact q _
end
end AL
namespace AL
open PySem PySem.Spec PyProof.Rows L2 Mi
section
variable {P : Program} {w : World} {K : PySem.W.Frag} {h : Heap} {mg : Str → Option Value}
theorem df_of (X : K.In h) (G : h.Ns mainGlobals mg) (c : SaysW fa fn K) {x : Str} {st : Stmt} (i j : Nat) (hi : fa[i]? = some (.glo x)) (hj : fn[j]? = some (dG x st)) : Df K mg x st := by
  obtain ⟨fd, F⟩ := c.1.def_ j hj
  exact ⟨_, fd, He.glo_ok X G (c.1.fact i hi), funD_fun F⟩
theorem me_of (c : SaysW fa fn K) {x q : Str} {st : Stmt} (i j : Nat) (hi : fa[i]? = some (.meth "Debate" x)) (hj : fn[j]? = some (dM "Debate" x q st)) : ∃ f fd, Meth K (He.ga K "Debate") x f ∧ Fun K x q st f fd := by
  obtain ⟨fd, F⟩ := c.1.def_ j hj
  exact ⟨_, fd, He.meth_ok (c.1.fact i hi), funD_fun F⟩
theorem txt_of (X : K.In h) (G : h.Ns mainGlobals mg) (c : SaysW fa fn K) : Txt K mg where
  d_is_whole := df_of X G c 0 0 rfl rfl
  d_is_signature := df_of X G c 1 1 rfl rfl
  d_is_quantity := df_of X G c 2 2 rfl rfl
  d_is_noun := df_of X G c 3 3 rfl rfl
  d_is_verb := df_of X G c 4 4 rfl rfl
  d_is_verb_sentence := df_of X G c 5 5 rfl rfl
  d_is_self_sentence := df_of X G c 6 6 rfl rfl
  d_is_sentence := df_of X G c 7 7 rfl rfl
  d_are_premises := df_of X G c 8 8 rfl rfl
  d_check_signature := df_of X G c 9 9 rfl rfl
  d_check_premises := df_of X G c 10 10 rfl rfl
  d_steps_of_table := df_of X G c 11 11 rfl rfl
  d_table_of := df_of X G c 12 12 rfl rfl
  d_stated_by := df_of X G c 13 13 rfl rfl
  d_stated_kinds := df_of X G c 14 14 rfl rfl
  d_nouns_of := df_of X G c 15 15 rfl rfl
  d_above := df_of X G c 16 16 rfl rfl
  d_required_nouns := df_of X G c 17 17 rfl rfl
  d_required_kinds := df_of X G c 18 18 rfl rfl
  d_is_forced := df_of X G c 19 19 rfl rfl
  d_is_forced_self := df_of X G c 20 20 rfl rfl
  d_word_of := df_of X G c 21 21 rfl rfl
  d_forced := df_of X G c 22 22 rfl rfl
  d_forced_self := df_of X G c 23 23 rfl rfl
  d_contrary := df_of X G c 24 24 rfl rfl
  d_is_contradicted := df_of X G c 25 25 rfl rfl
  d_verb_conflicts := df_of X G c 26 26 rfl rfl
  d_conflicts_by := df_of X G c 27 27 rfl rfl
  d_conflicts_of := df_of X G c 28 28 rfl rfl
  d_can_hold := df_of X G c 29 29 rfl rfl
  d_is_plain := df_of X G c 30 30 rfl rfl
  d_sizes_of := df_of X G c 31 31 rfl rfl
  d_done_to := df_of X G c 32 32 rfl rfl
  d_model_of := df_of X G c 33 33 rfl rfl
  d_canonical_model := df_of X G c 34 34 rfl rfl
  d_is_command := df_of X G c 35 35 rfl rfl
  d_said_by := df_of X G c 36 36 rfl rfl
  d_behind := df_of X G c 37 37 rfl rfl
  d_checked := df_of X G c 38 38 rfl rfl
  d_law_stream := df_of X G c 39 39 rfl rfl
  d_law_next := df_of X G c 40 40 rfl rfl
  d_law_is_integer := df_of X G c 41 41 rfl rfl
  d_law_equal := df_of X G c 42 42 rfl rfl
  d_law_noun_words := df_of X G c 43 43 rfl rfl
  d_law_sentence := df_of X G c 44 44 rfl rfl
  d_law_signature := df_of X G c 45 45 rfl rfl
  d_law_having := df_of X G c 46 46 rfl rfl
  d_law_size := df_of X G c 47 47 rfl rfl
  d_law_seen := df_of X G c 48 48 rfl rfl
  d_law_says := df_of X G c 49 49 rfl rfl
  d_law_holds := df_of X G c 50 50 rfl rfl
  d_law_satisfies := df_of X G c 51 51 rfl rfl
  d_law_said := df_of X G c 52 52 rfl rfl
  d_law_command := df_of X G c 53 53 rfl rfl
  d_law_behind := df_of X G c 54 54 rfl rfl
  d_law_why_not := df_of X G c 55 55 rfl rfl
  d_law_told := df_of X G c 56 56 rfl rfl
  d_law_canonical := df_of X G c 57 57 rfl rfl
  d_law := df_of X G c 58 58 rfl rfl
  b_abs := He.free_ok X G (c.1.fact 59 rfl)
  b_all := He.free_ok X G (c.1.fact 60 rfl)
  b_any := He.free_ok X G (c.1.fact 61 rfl)
  b_bool := He.free_ok X G (c.1.fact 62 rfl)
  b_enumerate := He.free_ok X G (c.1.fact 63 rfl)
  b_int := He.free_ok X G (c.1.fact 64 rfl)
  b_isinstance := He.free_ok X G (c.1.fact 65 rfl)
  b_len := He.free_ok X G (c.1.fact 66 rfl)
  b_list := He.free_ok X G (c.1.fact 67 rfl)
  b_max := He.free_ok X G (c.1.fact 68 rfl)
  b_min := He.free_ok X G (c.1.fact 69 rfl)
  b_range := He.free_ok X G (c.1.fact 70 rfl)
  b_set := He.free_ok X G (c.1.fact 71 rfl)
  b_sorted := He.free_ok X G (c.1.fact 72 rfl)
  b_str := He.free_ok X G (c.1.fact 73 rfl)
  b_sum := He.free_ok X G (c.1.fact 74 rfl)
  b_tuple := He.free_ok X G (c.1.fact 75 rfl)
  c_MOST_NOUNS := He.int_ok X G (c.1.fact 76 rfl)
  c_MOST_VERBS := He.int_ok X G (c.1.fact 77 rfl)
  c_MOST_PREMISES := He.int_ok X G (c.1.fact 78 rfl)
  c_MOST_SPEAKER := He.int_ok X G (c.1.fact 79 rfl)
  c_MOST_ASSERTIONS := He.int_ok X G (c.1.fact 80 rfl)
  c_MOST_COMMANDS := He.int_ok X G (c.1.fact 81 rfl)
  c_QUANTITIES := ⟨_, He.glo_ok X G (c.1.fact 82 rfl), fun H => He.tupB_ok (He.ba c.2).1 H⟩
  c_TWO_NOUNS := ⟨_, He.glo_ok X G (c.1.fact 83 rfl), fun H => He.tupB_ok (He.ba (He.ba c.2).2).1 H⟩
  c_COPIES := ⟨_, He.glo_ok X G (c.1.fact 84 rfl), fun H => He.tupB_ok (He.ba (He.ba (He.ba c.2).2).2).1 H⟩
theorem low_of (X : K.In h) (G : h.Ns mainGlobals mg) (c : SaysW fa fn K) : PySem.LowX.LowTxt K mg (npC K) (npI K) := by
  obtain ⟨_, c1⟩ := He.ba c.2
  obtain ⟨_, c1⟩ := He.ba c1
  obtain ⟨_, c1⟩ := He.ba c1
  obtain ⟨k1, c1⟩ := He.ba c1
  obtain ⟨k2, c1⟩ := He.ba c1
  obtain ⟨k3, c1⟩ := He.ba c1
  obtain ⟨k4, c1⟩ := He.ba c1
  obtain ⟨k5, c1⟩ := He.ba c1
  obtain ⟨k6, c1⟩ := He.ba c1
  obtain ⟨k7, c1⟩ := He.ba c1
  obtain ⟨k8, c1⟩ := He.ba c1
  obtain ⟨k9, k10⟩ := He.ba c1
  obtain ⟨fd, F⟩ := c.1.def_ 59 (d := dM "NotPossible" "__init__" "NotPossible.__init__" s_NotPossible_init) rfl
  have F2 : Fun K "__init__" "NotPossible.__init__" s_NotPossible_init (npI K) fd := funD_fun F
  obtain ⟨oc, od, kV, doc, pm, an, cdv, ct, osl, rfl, lk, hcd⟩ := F2.ex
  have hkV : kV = .none := by
    unfold kwN at k10
    rw [lk] at k10
    cases kV with
    | none => rfl
    | _ => cases k10
  subst hkV
  exact ⟨He.glo_ok X G (c.1.fact 85 rfl), lowB_ok k1, He.eqO_ok k2, He.eqO_ok k3, He.eqO_ok k4, He.noat_ok (c.1.fact 86 rfl), He.eqO_ok k5, of_decide_eq_true k6, He.keep_ok (c.1.fact 87 rfl), of_decide_eq_true k7, of_decide_eq_true k8, k9, He.exm_ok (c.1.fact 88 rfl),
    oc, od, doc, pm, an, cdv, ct, osl, ⟨17, 17, 17, 21⟩, ⟨17, 23, 17, 26⟩, ⟨18, 8, 18, 12⟩, ⟨18, 8, 18, 16⟩, ⟨18, 19, 18, 22⟩, ⟨18, 8, 18, 22⟩, lk, hcd⟩
theorem deb_of (X : K.In h) (G : h.Ns mainGlobals mg) (c : SaysW fa fn K) : DebT K mg (He.ga K "Debate") where
  mgC := He.glo_ok X G (c.1.fact 89 rfl)
  cl := He.cls_ok (c.1.fact 90 rfl)
  n1 := He.noat_ok (c.1.fact 91 rfl)
  n2 := He.noat_ok (c.1.fact 92 rfl)
  n3 := He.noat_ok (c.1.fact 93 rfl)
  mak := by
    obtain ⟨fd, F⟩ := c.1.def_ 60 (d := dM "Debate" "__init__" "Debate.__init__" s_Debate_init) rfl
    exact ⟨_, fd, He.mkr_ok (c.1.fact 94 rfl), funD_fun F⟩
  act := me_of c 95 61 rfl rfl
  asr := me_of c 96 62 rfl rfl
  sen := me_of c 97 63 rfl rfl
  jrn := me_of c 98 64 rfl rfl
  rcd := me_of c 99 65 rfl rfl
theorem facts_of {fa0 : Addr} (X : K.In h) (G : h.Ns mainGlobals mg) (hfa : mg ("law" : Str) = some (.ref fa0)) (c : SaysW fa fn K) :
    ∃ fd : FuncData, (∀ (s : Shared) (v : Value), BindsTo s fd ⟨[v], []⟩ [("_law_script", v)]) ∧ ∀ base : Heap, K.In base → base.Ns mainGlobals mg → FnOk P w K mg base CX0 14 fa0 fd ["_law_script"] (spLaw K) := by
  have T := txt_of X G c
  obtain ⟨fd, F⟩ := c.1.def_ 58 (d := dG "law" s_law) rfl
  have e := hfa.symm.trans (He.glo_ok X G (c.1.fact 58 rfl))
  cases e
  have b := FunD.bindsA (ps := ["_law_script"]) F fun _ _ _ _ _ _ us hl => match us, hl with | [_], _ => rfl
  exact ⟨fd, fun s v => b s [v] rfl, fun base _ _ => fn_law T (low_of X G c) (deb_of X G c) (funD_fun F)⟩
end
end AL
open PySem PySem.W PySem.Calls PyProof.Rows
set_option maxRecDepth 100000 in
set_option maxHeartbeats 0 in
theorem PySem.Challenge.cw_allsomeno_k72_whole_commands_of_debates_holds : PySem.Challenge.rw_allsomeno_k72_whole_commands_of_debates.Holds := by
  w_on; o_law
  refine HandSHeadRun.head_any (r := OpenLaw.row PySem.Challenge.rw_allsomeno_k72_whole_commands_of_debates) (q := view (OpenLaw.row PySem.Challenge.rw_allsomeno_k72_whole_commands_of_debates).prog [81]) (H := AL.hk) (ob := AL.ob) (M := 8000) (loose := AL.loose) (d := HandSHeadRun.topDef (OpenLaw.row PySem.Challenge.rw_allsomeno_k72_whole_commands_of_debates).prog 81) (kwd := []) AL.ob_eq
    AL.e_open AL.e_fence AL.run AL.e_def AL.e_the AL.e_kw (by rfl) (by first | assumption | decide +kernel) AL.e_ok AL.e_bare ?hw ?hc
  case hw => w_witness2
  case hc =>
    refine L2.walk_ofE (l := PySem.Challenge.rw_allsomeno_k72_whole_commands_of_debates) (n := 63) (k := 14) (x := "_law_script") (CX := L2.CX0) rfl (by decide) AL.e_dfl ⟨rfl, by decide, by decide⟩ ?F (fun _ _ _ _ z => z)
    intro w mg fa h Y G hmg0
    obtain ⟨K, KX, c⟩ := Y
    have hmg : mg ("law" : PySem.Str) = some (.ref fa) := by
      have e := AL.e_name
      rw [← e]
      exact hmg0
    obtain ⟨fd, hb, hF⟩ := AL.facts_of (P := (PySem.Challenge.rw_allsomeno_k72_whole_commands_of_debates).prog) (w := w) KX G hmg c
    exact ⟨K, fd, AL.spLaw K, KX, hb, fun H a ns hl _ hS => ⟨a, ns, rfl, hS, hl, fun _ => rfl⟩, hF⟩
