import PyProof.Rows.All
import Wide.All
import OpenK.AllK
import Wide.FinOn
import HandS.ForMost
import HandS.ForExc
import HandS.Codes
import HandS.Defaults
import HandS.Evl
import HandS.Steps
import HandS.DictComp
import HandS.IsInst
import HandS.TupAny
import HandS.Style
import HandS.Small
import HandS.TryOnly
import HandS.ExcOwn
import PyProof.ExcBaseAll.ValueError
import HandS.More
import HandS.Zip
import HandS.Walk
import HandS.HeadHook1
import HandS.HeadHook2
import KE.GoesZip
import KE.GoesMore
import KE.GoesEnum
import HandS.Head0
import HandS.Head1
import HandS.Head2
import HandS.HeadEnd
import HandS.HeadHook3
import HandS.HeadHook4
import KE.KStateDown
import PySem.Challenge.RW_probewright_k12_whole_many_patterns_at_o
set_option Elab.async false
set_option linter.all false
set_option maxRecDepth 100000
set_option maxHeartbeats 4000000
namespace Pw
open PySem PySem.Spec PyProof.Rows L2 Evl
def top (i : Nat) : Stmt := PySem.Challenge.pw_probewright_k12_whole_many_patterns_at_o.main.body.getD i (.Pass ⟨0, 0, 0, 0⟩)
abbrev s_is_integer : Stmt := top 12
abbrev s_is_bit : Stmt := top 13
abbrev s_are_bits : Stmt := top 14
abbrev s_is_name : Stmt := top 15
abbrev s_is_stem : Stmt := top 17
abbrev s_is_pin : Stmt := top 18
abbrev s_is_short : Stmt := top 19
abbrev s_is_break : Stmt := top 20
abbrev s_check_version : Stmt := top 21
abbrev s_shorts : Stmt := top 22
abbrev s_gate_value : Stmt := top 24
abbrev s_joined : Stmt := top 25
abbrev s_stuck_pin : Stmt := top 26
abbrev s_pin_value : Stmt := top 27
abbrev s_pass_through : Stmt := top 28
abbrev s_forced_lines : Stmt := top 29
abbrev s_check_pattern : Stmt := top 30
abbrev s_values : Stmt := top 31
abbrev s_response : Stmt := top 32
abbrev s_word_of : Stmt := top 34
abbrev s_gate_word : Stmt := top 35
abbrev s_Many___init__ : Stmt := inClass (top 36) 0
abbrev s_Many_full : Stmt := inClass (top 36) 1
abbrev s_Many_pin : Stmt := inClass (top 36) 2
abbrev s_Many_through : Stmt := inClass (top 36) 3
abbrev s_Many_words : Stmt := inClass (top 36) 4
abbrev s_words_of : Stmt := top 37
abbrev s_responses : Stmt := top 38
abbrev s_parting : Stmt := top 39
abbrev s_pins_allowed : Stmt := top 42
abbrev s_is_row : Stmt := top 43
abbrev s_is_gate : Stmt := top 44
abbrev s_Circuit___init__ : Stmt := inClass (top 45) 0
abbrev s_Circuit_check_forms : Stmt := inClass (top 45) 1
abbrev s_Circuit_check_names : Stmt := inClass (top 45) 2
abbrev s_Circuit_lines : Stmt := inClass (top 45) 3
abbrev s_Circuit_uses : Stmt := inClass (top 45) 4
abbrev s_Circuit_sources : Stmt := inClass (top 45) 5
abbrev s_Circuit_sinks : Stmt := inClass (top 45) 6
abbrev s_Circuit_sorted_gates : Stmt := inClass (top 45) 7
abbrev s_Circuit_above : Stmt := inClass (top 45) 8
abbrev s__law_cell : Stmt := top 47
abbrev s__law_rich : Stmt := top 48
abbrev s__law_gate : Stmt := top 49
abbrev s__law_parts : Stmt := top 50
abbrev s__law_circuit : Stmt := top 51
abbrev s__law_version : Stmt := top 52
abbrev s__law_refused : Stmt := top 53
abbrev s_law : Stmt := top 54
theorem sc_is_integer : FnScope ["value", "least", "greatest"] ["value", "least", "greatest"] (defScope s_is_integer) := ⟨rfl, rfl, rfl, by decide +kernel, rfl, by decide +kernel, by decide +kernel⟩
theorem sc_is_bit : FnScope ["value"] ["value"] (defScope s_is_bit) := ⟨rfl, rfl, rfl, by decide +kernel, rfl, by decide +kernel, by decide +kernel⟩
theorem sc_are_bits : FnScope ["value", "count", "item"] ["value", "count"] (defScope s_are_bits) := ⟨rfl, rfl, rfl, by decide +kernel, rfl, by decide +kernel, by decide +kernel⟩
theorem sc_is_name : FnScope ["value", "character"] ["value"] (defScope s_is_name) := ⟨rfl, rfl, rfl, by decide +kernel, rfl, by decide +kernel, by decide +kernel⟩
theorem sc_is_stem : FnScope ["circuit", "value"] ["circuit", "value"] (defScope s_is_stem) := ⟨rfl, rfl, rfl, by decide +kernel, rfl, by decide +kernel, by decide +kernel⟩
theorem sc_is_pin : FnScope ["circuit", "value"] ["circuit", "value"] (defScope s_is_pin) := ⟨rfl, rfl, rfl, by decide +kernel, rfl, by decide +kernel, by decide +kernel⟩
theorem sc_is_short : FnScope ["circuit", "value", "lines"] ["circuit", "value"] (defScope s_is_short) := ⟨rfl, rfl, rfl, by decide +kernel, rfl, by decide +kernel, by decide +kernel⟩
theorem sc_is_break : FnScope ["circuit", "value"] ["circuit", "value"] (defScope s_is_break) := ⟨rfl, rfl, rfl, by decide +kernel, rfl, by decide +kernel, by decide +kernel⟩
theorem sc_check_version : FnScope ["circuit", "version"] ["circuit", "version"] (defScope s_check_version) := ⟨rfl, rfl, rfl, by decide +kernel, rfl, by decide +kernel, by decide +kernel⟩
theorem sc_shorts : FnScope ["circuit", "lines", "above", "line", "found", "index", "one", "other", "kind"] ["circuit"] (defScope s_shorts) := ⟨rfl, rfl, rfl, by decide +kernel, rfl, by decide +kernel, by decide +kernel⟩
theorem sc_gate_value : FnScope ["kind", "bits", "total", "value"] ["kind", "bits"] (defScope s_gate_value) := ⟨rfl, rfl, rfl, by decide +kernel, rfl, by decide +kernel, by decide +kernel⟩
theorem sc_joined : FnScope ["kind", "one", "other"] ["kind", "one", "other"] (defScope s_joined) := ⟨rfl, rfl, rfl, by decide +kernel, rfl, by decide +kernel, by decide +kernel⟩
theorem sc_stuck_pin : FnScope ["version", "gate", "index"] ["version", "gate", "index"] (defScope s_stuck_pin) := ⟨rfl, rfl, rfl, by decide +kernel, rfl, by decide +kernel, by decide +kernel⟩
theorem sc_pin_value : FnScope ["version", "gate", "index", "known", "stuck"] ["version", "gate", "index", "known"] (defScope s_pin_value) := ⟨rfl, rfl, rfl, by decide +kernel, rfl, by decide +kernel, by decide +kernel⟩
theorem sc_pass_through : FnScope ["circuit", "version", "pattern", "forced", "known", "line", "bit", "gate", "bits", "index"] ["circuit", "version", "pattern", "forced"] (defScope s_pass_through) := ⟨rfl, rfl, rfl, by decide +kernel, rfl, by decide +kernel, by decide +kernel⟩
theorem sc_forced_lines : FnScope ["circuit", "version", "pattern", "known", "bit"] ["circuit", "version", "pattern"] (defScope s_forced_lines) := ⟨rfl, rfl, rfl, by decide +kernel, rfl, by decide +kernel, by decide +kernel⟩
theorem sc_check_pattern : FnScope ["circuit", "pattern"] ["circuit", "pattern"] (defScope s_check_pattern) := ⟨rfl, rfl, rfl, by decide +kernel, rfl, by decide +kernel, by decide +kernel⟩
theorem sc_values : FnScope ["circuit", "version", "pattern"] ["circuit", "version", "pattern"] (defScope s_values) := ⟨rfl, rfl, rfl, by decide +kernel, rfl, by decide +kernel, by decide +kernel⟩
theorem sc_response : FnScope ["circuit", "version", "pattern", "known", "line"] ["circuit", "version", "pattern"] (defScope s_response) := ⟨rfl, rfl, rfl, by decide +kernel, rfl, by decide +kernel, by decide +kernel⟩
theorem sc_word_of : FnScope ["bits", "word", "index", "bit"] ["bits"] (defScope s_word_of) := ⟨rfl, rfl, rfl, by decide +kernel, rfl, by decide +kernel, by decide +kernel⟩
theorem sc_gate_word : FnScope ["kind", "words", "mask", "word", "other"] ["kind", "words", "mask"] (defScope s_gate_word) := ⟨rfl, rfl, rfl, by decide +kernel, rfl, by decide +kernel, by decide +kernel⟩
theorem sc_Many___init__ : FnScope ["self", "circuit", "version", "patterns", "index", "line", "pattern"] ["self", "circuit", "version", "patterns"] (defScope s_Many___init__) := ⟨rfl, rfl, rfl, by decide +kernel, rfl, by decide +kernel, by decide +kernel⟩
theorem sc_Many_full : FnScope ["self", "bit"] ["self", "bit"] (defScope s_Many_full) := ⟨rfl, rfl, rfl, by decide +kernel, rfl, by decide +kernel, by decide +kernel⟩
theorem sc_Many_pin : FnScope ["self", "gate", "index", "known", "version", "stuck"] ["self", "gate", "index", "known", "version"] (defScope s_Many_pin) := ⟨rfl, rfl, rfl, by decide +kernel, rfl, by decide +kernel, by decide +kernel⟩
theorem sc_Many_through : FnScope ["self", "version", "forced", "known", "line", "word", "gate", "words", "index"] ["self", "version", "forced"] (defScope s_Many_through) := ⟨rfl, rfl, rfl, by decide +kernel, rfl, by decide +kernel, by decide +kernel⟩
theorem sc_Many_words : FnScope ["self", "version", "forced", "known", "one", "other", "word"] ["self"] (defScope s_Many_words) := ⟨rfl, rfl, rfl, by decide +kernel, rfl, by decide +kernel, by decide +kernel⟩
theorem sc_words_of : FnScope ["circuit", "version", "patterns", "pattern"] ["circuit", "version", "patterns"] (defScope s_words_of) := ⟨rfl, rfl, rfl, by decide +kernel, rfl, by decide +kernel, by decide +kernel⟩
theorem sc_responses : FnScope ["circuit", "version", "patterns", "words", "rows", "line", "row", "index"] ["circuit", "version", "patterns"] (defScope s_responses) := ⟨rfl, rfl, rfl, by decide +kernel, rfl, by decide +kernel, by decide +kernel⟩
theorem sc_parting : FnScope ["circuit", "one", "other", "patterns", "left", "right", "word", "line", "index"] ["circuit", "one", "other", "patterns"] (defScope s_parting) := ⟨rfl, rfl, rfl, by decide +kernel, rfl, by decide +kernel, by decide +kernel⟩
theorem sc_pins_allowed : FnScope ["kind", "count"] ["kind", "count"] (defScope s_pins_allowed) := ⟨rfl, rfl, rfl, by decide +kernel, rfl, by decide +kernel, by decide +kernel⟩
theorem sc_is_row : FnScope ["value", "size", "item"] ["value", "size"] (defScope s_is_row) := ⟨rfl, rfl, rfl, by decide +kernel, rfl, by decide +kernel, by decide +kernel⟩
theorem sc_is_gate : FnScope ["value", "pin"] ["value"] (defScope s_is_gate) := ⟨rfl, rfl, rfl, by decide +kernel, rfl, by decide +kernel, by decide +kernel⟩
theorem sc_Circuit___init__ : FnScope ["self", "inputs", "registers", "gates", "outputs", "gate"] ["self", "inputs", "registers", "gates", "outputs"] (defScope s_Circuit___init__) := ⟨rfl, rfl, rfl, by decide +kernel, rfl, by decide +kernel, by decide +kernel⟩
theorem sc_Circuit_check_forms : FnScope ["self", "name", "cell", "gate"] ["self"] (defScope s_Circuit_check_forms) := ⟨rfl, rfl, rfl, by decide +kernel, rfl, by decide +kernel, by decide +kernel⟩
theorem sc_Circuit_check_names : FnScope ["self", "seen", "name"] ["self"] (defScope s_Circuit_check_names) := ⟨rfl, rfl, rfl, by decide +kernel, rfl, by decide +kernel, by decide +kernel⟩
theorem sc_Circuit_lines : FnScope ["self", "gate"] ["self"] (defScope s_Circuit_lines) := ⟨rfl, rfl, rfl, by decide +kernel, rfl, by decide +kernel, by decide +kernel⟩
theorem sc_Circuit_uses : FnScope ["self", "names", "gate", "pin", "cell"] ["self"] (defScope s_Circuit_uses) := ⟨rfl, rfl, rfl, by decide +kernel, rfl, by decide +kernel, by decide +kernel⟩
theorem sc_Circuit_sources : FnScope ["self", "cell"] ["self"] (defScope s_Circuit_sources) := ⟨rfl, rfl, rfl, by decide +kernel, rfl, by decide +kernel, by decide +kernel⟩
theorem sc_Circuit_sinks : FnScope ["self", "cell"] ["self"] (defScope s_Circuit_sinks) := ⟨rfl, rfl, rfl, by decide +kernel, rfl, by decide +kernel, by decide +kernel⟩
theorem sc_Circuit_sorted_gates : FnScope ["self", "known", "name", "order", "waiting", "later", "gate", "pin"] ["self"] (defScope s_Circuit_sorted_gates) := ⟨rfl, rfl, rfl, by decide +kernel, rfl, by decide +kernel, by decide +kernel⟩
theorem sc_Circuit_above : FnScope ["self", "line", "found", "gate", "pin"] ["self", "line"] (defScope s_Circuit_above) := ⟨rfl, rfl, rfl, by decide +kernel, rfl, by decide +kernel, by decide +kernel⟩
theorem sc__law_cell : FnScope ["_law_script", "_law_k"] ["_law_script", "_law_k"] (defScope s__law_cell) := ⟨rfl, rfl, rfl, by decide +kernel, rfl, by decide +kernel, by decide +kernel⟩
theorem sc__law_rich : FnScope ["_law_cell_here", "_law_k", "_law_mixed"] ["_law_cell_here", "_law_k"] (defScope s__law_rich) := ⟨rfl, rfl, rfl, by decide +kernel, rfl, by decide +kernel, by decide +kernel⟩
theorem sc__law_gate : FnScope ["_law_rich_here", "_law_known", "_law_name", "_law_kind", "_law_count", "_law_pins", "_law_k"] ["_law_rich_here", "_law_known", "_law_name"] (defScope s__law_gate) := ⟨rfl, rfl, rfl, by decide +kernel, rfl, by decide +kernel, by decide +kernel⟩
theorem sc__law_parts : FnScope ["_law_script", "_law_most", "_law_cell_here", "_law_inputs", "_law_names", "_law_known", "_law_gates", "_law_k", "_law_rich_here", "_law_registers", "_law_outputs"] ["_law_script", "_law_most"] (defScope s__law_parts) := ⟨rfl, rfl, rfl, by decide +kernel, rfl, by decide +kernel, by decide +kernel⟩
theorem sc__law_circuit : FnScope ["_law_script", "_law_most", "_law_inputs", "_law_registers", "_law_gates", "_law_outputs"] ["_law_script", "_law_most"] (defScope s__law_circuit) := ⟨rfl, rfl, rfl, by decide +kernel, rfl, by decide +kernel, by decide +kernel⟩
theorem sc__law_version : FnScope ["_law_circuit_here", "_law_rich_here", "_law_lines", "_law_choice", "_law_rest", "_law_gate_here", "_law_found"] ["_law_circuit_here", "_law_rich_here"] (defScope s__law_version) := ⟨rfl, rfl, rfl, by decide +kernel, rfl, by decide +kernel, by decide +kernel⟩
theorem sc__law_refused : FnScope ["_law_circuit_here", "_law_patterns"] ["_law_circuit_here", "_law_patterns"] (defScope s__law_refused) := ⟨rfl, rfl, rfl, by decide +kernel, rfl, by decide +kernel, by decide +kernel⟩
theorem sc_law : FnScope ["_law_script", "_law_circuit_here", "_law_count", "_law_rich_here", "_law_one", "_law_other", "_law_patterns", "_law_k", "_law_cell_here", "_law_j", "_law_known", "_law_pattern", "_law_words", "_law_line", "_law_due", "_law_weight", "_law_rows"] ["_law_script"] (defScope s_law) := ⟨rfl, rfl, rfl, by decide +kernel, rfl, by decide +kernel, by decide +kernel⟩
/-! ### defs of the text, as they stand behind the top -/
structure DefF (K : PySem.W.Frag) (mg : Str → Option Value) (x : Str) (st : Stmt) : Prop where
  ex : ∃ (f : Addr) (fd : FuncData), FunD K x x (defArgs st) (defBody st) (defScope st) [] [] f fd ∧ mg x = some (.ref f)
structure DefM (K : PySem.W.Frag) (C : Addr) (m qual : Str) (st : Stmt) : Prop where
  ex : ∃ (f : Addr) (fd : FuncData), FunD K m qual (defArgs st) (defBody st) (defScope st) [] [] f fd ∧ Meth K C m f
/-- a class that is made: its __init__ -/
structure DefI (K : PySem.W.Frag) (mg : Str → Option Value) (x : Str) (C : Addr) (qual : Str) (st : Stmt) : Prop where
  ex : ∃ (f : Addr) (fd : FuncData), FunD K "__init__" qual (defArgs st) (defBody st) (defScope st) [] [] f fd ∧ Mk K C f ∧ mg x = some (.ref C)
/-- a def that may let an exception out -/
structure CalX (P : Program) (w : World) (K : PySem.W.Frag) (mg : Str → Option Value) (base : Heap) (k : Nat) (x : Str) (sp : Sp) : Prop where
  ex : ∃ (f : Addr) (fd : FuncData) (ps : List Str), FnOk P w K mg base (L2.CX P w) k f fd ps sp ∧ mg x = some (.ref f) ∧ PySem.W.keepIn K (.ref f) = true ∧ Binds K fd ps []
section
variable {P : Program} {w : World} {K : PySem.W.Frag} {mg : Str → Option Value} {base : Heap}
theorem cal_of {x : Str} {st : Stmt} {N ps : List Str} {k : Nat} {sp : Sp} (F : DefF K mg x st) (S : FnScope N ps (defScope st)) (len : ∀ vs H Q E, sp vs H Q E → vs.length = ps.length)
    (hb : ∀ (kV doc pm : Value) (an : Option Addr) (cdv ct : Value) (us : List Value), us.length = ps.length → bindArgs (PySem.W.fnOf x x (defArgs st) (defBody st) (defScope st) .none kV doc pm an cdv ct) ⟨us, []⟩ = pure (ps.zip us))
    (hbody : ∀ (f : Addr) (cdv : Value) (A : Around) (outer : List Env) (s : Shared) (H : Hp) (vs : List V) (Q : VK) (E : XK), Room k (A.deeper (envOfC x (defScope st) s.heap.objs.size f cdv)) → sp vs H Q E →
      ∃ t, PSs (cxOf CX0 P w K mg base N x (defScope st) f cdv A outer s H E).nox (defBody st) t ∧ t { nx := fun _ H' => Q .non H', rt := Q } (start N vs) H) : C8.Cal P w K mg base (k + 1) x sp [] := by
  obtain ⟨f, fd, F, hm⟩ := F.ex
  refine ⟨f, fd, ps, [], F.ok S len (fun cdv A outer s H vs Q E hr hsp => ?_), hm, F.kp, F.bindsN hb, .nil⟩
  obtain ⟨t, h, q⟩ := hbody f cdv A outer s H vs Q E hr hsp
  exact ⟨t, h.nox, q⟩
theorem met_of {C : Addr} {m qual : Str} {st : Stmt} {N ps : List Str} {k : Nat} {sp : Sp} (c : Cls K C) (F : DefM K C m qual st) (S : FnScope N ps (defScope st)) (len : ∀ vs H Q E, sp vs H Q E → vs.length = ps.length)
    (hb : ∀ (kV doc pm : Value) (an : Option Addr) (cdv ct : Value) (us : List Value), us.length = ps.length → bindArgs (PySem.W.fnOf m qual (defArgs st) (defBody st) (defScope st) .none kV doc pm an cdv ct) ⟨us, []⟩ = pure (ps.zip us))
    (hbody : ∀ (f : Addr) (cdv : Value) (A : Around) (outer : List Env) (s : Shared) (H : Hp) (vs : List V) (Q : VK) (E : XK), Room k (A.deeper (envOfC qual (defScope st) s.heap.objs.size f cdv)) → sp vs H Q E →
      ∃ t, PSs (cxOf CX0 P w K mg base N qual (defScope st) f cdv A outer s H E).nox (defBody st) t ∧ t { nx := fun _ H' => Q .non H', rt := Q } (start N vs) H) : C8.Met P w K mg base (k + 1) C m sp [] := by
  obtain ⟨f, fd, F, hm⟩ := F.ex
  refine ⟨f, fd, ps, [], c, hm, F.ok S len (fun cdv A outer s H vs Q E hr hsp => ?_), F.bindsN hb, .nil⟩
  obtain ⟨t, h, q⟩ := hbody f cdv A outer s H vs Q E hr hsp
  exact ⟨t, h.nox, q⟩
theorem mak_of {x : Str} {C : Addr} {qual : Str} {st : Stmt} {N ps : List Str} {k : Nat} {sp : Sp} (F : DefI K mg x C qual st) (S : FnScope N ps (defScope st)) (len : ∀ vs H Q E, sp vs H Q E → vs.length = ps.length)
    (hb : ∀ (kV doc pm : Value) (an : Option Addr) (cdv ct : Value) (us : List Value), us.length = ps.length → bindArgs (PySem.W.fnOf "__init__" qual (defArgs st) (defBody st) (defScope st) .none kV doc pm an cdv ct) ⟨us, []⟩ = pure (ps.zip us))
    (hbody : ∀ (f : Addr) (cdv : Value) (A : Around) (outer : List Env) (s : Shared) (H : Hp) (vs : List V) (Q : VK) (E : XK), Room k (A.deeper (envOfC qual (defScope st) s.heap.objs.size f cdv)) → sp vs H Q E →
      ∃ t, PSs (cxOf CX0 P w K mg base N qual (defScope st) f cdv A outer s H E).nox (defBody st) t ∧ t { nx := fun _ H' => Q .non H', rt := Q } (start N vs) H) : C8.Mak P w K mg base (k + 1) x C sp [] := by
  obtain ⟨f, fd, F, hM, hm⟩ := F.ex
  refine ⟨f, fd, ps, [], hM, F.ok S len (fun cdv A outer s H vs Q E hr hsp => ?_), hm, F.bindsN hb, .nil⟩
  obtain ⟨t, h, q⟩ := hbody f cdv A outer s H vs Q E hr hsp
  exact ⟨t, h.nox, q⟩
theorem calX_of {x : Str} {st : Stmt} {N ps : List Str} {k : Nat} {sp : Sp} (F : DefF K mg x st) (S : FnScope N ps (defScope st)) (len : ∀ vs H Q E, sp vs H Q E → vs.length = ps.length)
    (hb : ∀ (kV doc pm : Value) (an : Option Addr) (cdv ct : Value) (us : List Value), us.length = ps.length → bindArgs (PySem.W.fnOf x x (defArgs st) (defBody st) (defScope st) .none kV doc pm an cdv ct) ⟨us, []⟩ = pure (ps.zip us))
    (hbody : ∀ (f : Addr) (cdv : Value) (A : Around) (outer : List Env) (s : Shared) (H : Hp) (vs : List V) (Q : VK) (E : XK), Room k (A.deeper (envOfC x (defScope st) s.heap.objs.size f cdv)) → sp vs H Q E →
      ∃ t, PSs (cxOf (L2.CX P w) P w K mg base N x (defScope st) f cdv A outer s H E) (defBody st) t ∧ t { nx := fun _ H' => Q .non H', rt := Q } (start N vs) H) : CalX P w K mg base (k + 1) x sp := by
  obtain ⟨f, fd, F, hm⟩ := F.ex
  exact ⟨f, fd, ps, F.ok S len (fun cdv A outer s H vs Q E hr hsp => hbody f cdv A outer s H vs Q E hr hsp), hm, F.kp, F.bindsN hb⟩
end
section
variable {X : Cx} {k j : Nat} {x : Str} {sp : Sp} {p pos : Pos} {e : Expr} {es : List Expr} {t : TA}
/-- a call where nothing is let out -/
theorem pe_cx (c : CalX X.prog X.w X.K X.mg X.base k x sp) (hr : Room j X.A) (hk : k ≤ j) (hg : Gl X x) (ha : PA X (e :: es) t)
    (hdb : (x == ("__debug__" : Str)) = false := by decide) (he : starEach (e :: es) X.env = (false, eval e X.env) :: starEach es X.env := by rfl) (hpl : (backTo pos (starEach es X.env)).any (·.1) = false := by rfl) :
    PE X (.Call (.Name x p) (e :: es) [] pos) (tCall sp [] E0 t) := by
  obtain ⟨f, fd, ps, F, hm, kp, b⟩ := c.ex
  exact pe_call F (hr.mono hk) hg hm kp b .nil passL ha hdb he hpl
/-- a call where what it lets out is taken -/
theorem pe_cxS {E : L2.St → XK} (c : CalX X.prog X.w X.K X.mg X.base k x sp) (hr : Room j X.A) (hk : k ≤ j) (hg : Gl X x) (hx : ∀ σ, PassesAt (L2.CX X.prog X.w) X σ (E σ)) (ha : PA X (e :: es) t)
    (hdb : (x == ("__debug__" : Str)) = false := by decide) (he : starEach (e :: es) X.env = (false, eval e X.env) :: starEach es X.env := by rfl) (hpl : (backTo pos (starEach es X.env)).any (·.1) = false := by rfl) :
    PE X (.Call (.Name x p) (e :: es) [] pos) (tCallS sp E t) := by
  obtain ⟨f, fd, ps, F, hm, kp, b⟩ := c.ex
  exact pe_callS F (hr.mono hk) hg hm kp b hx ha hdb he hpl
end
/-! ### what the walk asks of the module's names -/
structure Tx (K : PySem.W.Frag) (mg : Str → Option Value) : Prop where
  n_isinstance : mg "isinstance" = none
  n_len : mg "len" = none
  n_all : mg "all" = none
  n_sum : mg "sum" = none
  n_int : mg "int" = none
  n_bool : mg "bool" = none
  n_str : mg "str" = none
  n_tuple : mg "tuple" = none
  n_list : mg "list" = none
  n_min : mg "min" = none
  n_max : mg "max" = none
  n_sorted : mg "sorted" = none
  n_range : mg "range" = none
  n_enumerate : mg "enumerate" = none
  n_zip : mg "zip" = none
  cMOST_NAME : ∃ u, mg "MOST_NAME" = some u ∧ RelV (.int 12) u
  cMOST_PINS : ∃ u, mg "MOST_PINS" = some u ∧ RelV (.int 4) u
  cMOST_LINES : ∃ u, mg "MOST_LINES" = some u ∧ RelV (.int 400) u
  cMOST_SOURCES : ∃ u, mg "MOST_SOURCES" = some u ∧ RelV (.int 40) u
  cLETTERS : ∃ u, mg "LETTERS" = some u ∧ RelV (.str "abcdefghijklmnopqrstuvwxyz") u
  cFIGURES : ∃ u, mg "FIGURES" = some u ∧ RelV (.str "0123456789") u
  cKINDS : ∃ u, mg "KINDS" = some u ∧ RelV (.ref (He.ga K "KINDS")) u
  clCircuit : Cls K (He.ga K "Circuit")
  clMany : Cls K (He.ga K "Many")
  na_inputs : NoAttr K (He.ga K "Circuit") "inputs"
  na_registers : NoAttr K (He.ga K "Circuit") "registers"
  na_gates : NoAttr K (He.ga K "Circuit") "gates"
  na_outputs : NoAttr K (He.ga K "Circuit") "outputs"
  na_gate_of : NoAttr K (He.ga K "Circuit") "gate_of"
  na_order : NoAttr K (He.ga K "Circuit") "order"
  nm_circuit : NoAttr K (He.ga K "Many") "circuit"
  nm_version : NoAttr K (He.ga K "Many") "version"
  nm_mask : NoAttr K (He.ga K "Many") "mask"
  nm_given : NoAttr K (He.ga K "Many") "given"
  bIn : PySem.W.excIn K (He.ga K "BadPattern") He.veBase "ValueError.__new__" = true
  bMg : mg "BadPattern" = some (.ref (He.ga K "BadPattern"))
  bKp : PySem.W.keepIn K (.ref (He.ga K "BadPattern")) = true
  bSub : PySem.W.subIn K (.ref (He.ga K "BadPattern")) (.type "BaseException") = some true
  bTy : PySem.W.typeIn K (.ref (He.ga K "BadPattern")) = some (.type "type")
  bEx : PySem.W.exmOne K (.ref (He.ga K "BadPattern")) (.ref (He.ga K "BadPattern")) = some true
  tKINDS : ∀ H : Hp, SqT K H (He.ga K "KINDS") [.str "and", .str "or", .str "nand", .str "nor", .str "xor", .str "xnor", .str "not", .str "buf", .str "low", .str "high"]
end Pw

namespace Pw
open PySem PySem.Spec PyProof.Rows L2 Evl
/-! ### what evaluates to what: the general form -/
def EvG (te : TE) (σ : L2.St) (H : Hp) (R : Hp → VK → Prop) : Prop := ∀ H1, Ex H H1 → ∀ Q : VK, R H1 Q → te σ H1 Q
def RetF (P : Addr → Hp → Prop) (H : Hp) (Q : VK) : Prop := ∀ p H2, H p = none → Ex H H2 → P p H2 → Q (.ref p) H2
def RetP (P : V → Hp → Prop) (H : Hp) (Q : VK) : Prop := ∀ v H2, Ex H H2 → P v H2 → Q v H2
def Mo (R : Hp → VK → Prop) : Prop := ∀ H H' Q, Ex H H' → R H Q → R H' Q
theorem mo_V {v : V} : Mo (RetV v) := fun _ _ _ e r H2 e2 => r H2 (e.trans e2)
theorem mo_L {xs : List V} : Mo (RetL xs) := fun _ _ _ e r p H2 hp e2 h => r p H2 (fresh_back e hp) (e.trans e2) h
theorem mo_F {P : Addr → Hp → Prop} : Mo (RetF P) := fun _ _ _ e r p H2 hp e2 h => r p H2 (fresh_back e hp) (e.trans e2) h
theorem mo_P {P : V → Hp → Prop} : Mo (RetP P) := fun _ _ _ e r v H2 e2 h => r v H2 (e.trans e2) h
section
variable {K : PySem.W.Frag} {σ : L2.St} {H H' : Hp} {ta tb te tx td ty tv : TE} {t u : TT} {x y z v : V} {r : R2} {D : Ends} {tu tw tz : TS} {g : TG} {R : Hp → VK → Prop} {C : Addr} {sp : Sp} {m : Str} {E : XK}
theorem EvG.mono (e : Ex H H') (h : EvG te σ H R) : EvG te σ H' R := fun H1 a Q q => h H1 (e.trans a) Q q
theorem eg_v (h : Ev te σ H v) : EvG te σ H (RetV v) := h
theorem eg_l {xs : List V} (h : EvL te σ H xs) : EvG te σ H (RetL xs) := h
theorem ev_g (h : EvG te σ H (RetV v)) : Ev te σ H v := h
theorem EvL.toF {xs : List V} (h : EvL te σ H xs) : EvG te σ H (RetF fun p H2 => H2 p = some (.lst xs)) := h
/-! calls -/
theorem eg_call {ta : TA} {vs : List V} (h : EvA ta σ H vs) (mo : Mo R) (hs : ∀ H1, Ex H H1 → ∀ Q E, R H1 Q → sp vs H1 Q E) : EvG (tCall sp [] E ta) σ H R := fun H1 e Q q =>
  h H1 e _ fun H2 e2 => by
    show sp (vs ++ []) H2 Q E
    rw [List.append_nil]
    exact hs H2 (e.trans e2) Q E (mo _ _ _ e2 q)
theorem eg_meth0 {a dx : Addr} {fs : List (Str × V)} (h : Ev ta σ H (.ref a)) (ho : H a = some (.ins C dx fs)) (hl : fs.lookup m = none) (mo : Mo R) (hs : ∀ H1, Ex H H1 → ∀ Q E, R H1 Q → sp [.ref a] H1 Q E) : EvG (tMeth C m sp [] E ta tNil) σ H R := fun H1 e Q q =>
  h H1 e _ fun H2 e2 => ⟨a, dx, fs, rfl, (e.trans e2) a _ ho, hl, hs H2 (e.trans e2) Q E (mo _ _ _ e2 q)⟩
theorem eg_meth {t : TA} {vs : List V} {a dx : Addr} {fs : List (Str × V)} (h : Ev ta σ H (.ref a)) (ho : H a = some (.ins C dx fs)) (hl : fs.lookup m = none) (ht : EvA t σ H vs) (mo : Mo R) (hs : ∀ H1, Ex H H1 → ∀ Q E, R H1 Q → sp (.ref a :: vs) H1 Q E) :
    EvG (tMeth C m sp [] E ta t) σ H R := fun H1 e Q q =>
  h H1 e _ fun H2 e2 => ⟨a, dx, fs, rfl, (e.trans e2) a _ ho, hl, ht H2 (e.trans e2) _ fun H3 e3 => by
    show sp (.ref a :: (vs ++ [])) H3 Q E
    rw [List.append_nil]
    exact hs H3 ((e.trans e2).trans e3) Q E (mo _ _ _ (e2.trans e3) q)⟩
/-! instances, dicts -/
theorem ev_fld {a dx : Addr} {fs : List (Str × V)} {f : Str} (h : Ev ta σ H (.ref a)) (ho : H a = some (.ins C dx fs)) (c : Cls K C) (n : NoAttr K C f) (l : fs.lookup f = some v) : Ev (tFld K ta f) σ H v := fun H1 e Q q =>
  h H1 e _ fun H2 e2 => ⟨a, C, dx, fs, v, rfl, (e.trans e2) a _ ho, c, n, l, q H2 e2⟩
theorem dget_of {a : Addr} {kvs : List (Key × V)} {z : Str} (h : Rd H a (.dK kvs)) : DGet H a (.str z) (valV kvs (.inr z)) := .inl ⟨kvs, .inr z, h, rfl, rfl⟩
theorem ev_dget {a : Addr} {kvs : List (Key × V)} {z : Str} (h : Ev td σ H (.ref a)) (h2 : Ev ty σ H (.str z)) (hd : Rd H a (.dK kvs)) (hv : valV kvs (.inr z) = some v) : Ev (tDGet td ty) σ H v := fun H1 e Q q =>
  h H1 e _ fun H2 e2 => h2 H2 (e.trans e2) _ fun H3 e3 => ⟨a, v, rfl, by rw [← hv]; exact dget_of (ex_rd ((e.trans e2).trans e3) hd), q H3 (e2.trans e3)⟩
theorem ev_dget2 {a : Addr} {kvs : List (Key × V)} {z : Str} (h : Ev td σ H (.ref a)) (h2 : Ev ty σ H (.str z)) (h3 : Ev tx σ H x) (hd : Rd H a (.dK kvs)) (hv : (valV kvs (.inr z)).getD x = v) : Ev (tDGet2 td ty tx) σ H v := fun H1 e Q q =>
  h H1 e _ fun H2 e2 => ⟨a, rfl, .inl ⟨kvs, ex_rd (e.trans e2) hd⟩, h2 H2 (e.trans e2) _ fun H3 e3 => h3 H3 ((e.trans e2).trans e3) _ fun H4 e4 =>
    ⟨valV kvs (.inr z), dget_of (ex_rd (((e.trans e2).trans e3).trans e4) hd), by rw [hv]; exact q H4 ((e2.trans e3).trans e4)⟩⟩
theorem ev_din {a : Addr} {kvs : List (Key × V)} {z : Str} {b : Bool} (h2 : Ev ty σ H (.str z)) (h : Ev td σ H (.ref a)) (hd : Rd H a (.dK kvs)) (hv : (valV kvs (.inr z)).isSome = b) : Ev (tDIn ty td) σ H (.bl b) := fun H1 e Q q =>
  h2 H1 e _ fun H2 e2 => h H2 (e.trans e2) _ fun H3 e3 => ⟨a, _, rfl, dget_of (ex_rd ((e.trans e2).trans e3) hd), by rw [hv]; exact q H3 (e2.trans e3)⟩
theorem ev_dnin {a : Addr} {kvs : List (Key × V)} {z : Str} {b : Bool} (h2 : Ev ty σ H (.str z)) (h : Ev td σ H (.ref a)) (hd : Rd H a (.dK kvs)) (hv : (!(valV kvs (.inr z)).isSome) = b) : Ev (tDNotIn ty td) σ H (.bl b) := fun H1 e Q q =>
  h2 H1 e _ fun H2 e2 => h H2 (e.trans e2) _ fun H3 e3 => ⟨a, _, rfl, dget_of (ex_rd ((e.trans e2).trans e3) hd), by rw [hv]; exact q H3 (e2.trans e3)⟩
theorem eg_dnew : EvG tDNewK σ H (RetF fun p H2 => H2 p = some (.dK [])) := fun H1 _ Q q p hp => q p _ hp (Ex.new hp) upd_same
/-! statements -/
theorem q_of (h : tu { D with nx := tz D } σ H) : tSeq tu tz D σ H := h
theorem s_asgG {i : Nat} (h : EvG te σ H R) (k : R H (fun v H1 => D.nx (σ.set i (some v)) H1)) : tAsg te (gName i) D σ H := h H (Ex.refl H) _ k
theorem q_asgG {i : Nat} (h : EvG te σ H R) (k : R H (fun v H1 => tz D (σ.set i (some v)) H1)) : tSeq (tAsg te (gName i)) tz D σ H := h H (Ex.refl H) _ k
theorem s_retG (h : EvG te σ H R) (k : R H D.rt) : tRet te D σ H := h H (Ex.refl H) _ k
theorem s_dropG (h : EvG te σ H R) (k : R H (fun _ H1 => D.nx σ H1)) : tDrop te D σ H := h H (Ex.refl H) _ k
theorem q_dropG (h : EvG te σ H R) (k : R H (fun _ H1 => tz D σ H1)) : tSeq (tDrop te) tz D σ H := h H (Ex.refl H) _ k
theorem s_dput {a : Addr} {kvs : List (Key × V)} {z : Str} (hd : H a = some (.dK kvs)) (hl : kvs.length < 100000) (hv : Ev tv σ H v) (h : Ev td σ H (.ref a)) (h2 : Ev ty σ H (.str z)) (k : ∀ H1, Ex H H1 → D.nx σ (upd H1 a (.dK (putK kvs (.inr z) v)))) : sDPut td ty tv D σ H :=
  hv H (Ex.refl H) _ fun H1 e1 => h H1 e1 _ fun H2 e2 => h2 H2 (e1.trans e2) _ fun H3 e3 => ⟨a, _, rfl, DPut.k (k := .inr z) (((e1.trans e2).trans e3) a _ hd) (sz_lt hl), k H3 ((e1.trans e2).trans e3)⟩
theorem q_dput {a : Addr} {kvs : List (Key × V)} {z : Str} (hd : H a = some (.dK kvs)) (hl : kvs.length < 100000) (hv : Ev tv σ H v) (h : Ev td σ H (.ref a)) (h2 : Ev ty σ H (.str z)) (k : ∀ H1, Ex H H1 → tz D σ (upd H1 a (.dK (putK kvs (.inr z) v)))) : tSeq (sDPut td ty tv) tz D σ H :=
  s_dput (D := { D with nx := tz D }) hd hl hv h h2 k
theorem s_fldput {a dx : Addr} {fs : List (Str × V)} {f : Str} (ho : H a = some (.ins C dx fs)) (c : Cls K C) (n : NoAttr K C f) (hl : fs.length < 1000) (h : Ev ta σ H (.ref a)) (hv : Ev tv σ H v) (k : ∀ H1, Ex H H1 → D.nx σ (upd H1 a (.ins C dx (putF f v fs)))) :
    sFld K ta tv f D σ H := hv H (Ex.refl H) _ fun H1 e1 => h H1 e1 _ fun H2 e2 => ⟨a, C, dx, fs, rfl, (e1.trans e2) a _ ho, c, n, hl, k H2 (e1.trans e2)⟩
theorem q_fldput {a dx : Addr} {fs : List (Str × V)} {f : Str} (ho : H a = some (.ins C dx fs)) (c : Cls K C) (n : NoAttr K C f) (hl : fs.length < 1000) (h : Ev ta σ H (.ref a)) (hv : Ev tv σ H v) (k : ∀ H1, Ex H H1 → tz D σ (upd H1 a (.ins C dx (putF f v fs)))) :
    tSeq (sFld K ta tv f) tz D σ H := s_fldput (D := { D with nx := tz D }) ho c n hl h hv k
/-- .. the value a new object -/
theorem q_fldputF {a dx : Addr} {fs : List (Str × V)} {f : Str} {P : Addr → Hp → Prop} (ho : H a = some (.ins C dx fs)) (c : Cls K C) (n : NoAttr K C f) (hl : fs.length < 1000) (h : Ev ta σ H (.ref a)) (hv : EvG tv σ H (RetF P))
    (k : ∀ p H1, H p = none → Ex H H1 → (∃ H0, P p H0 ∧ Ex H0 H1) → tz D σ (upd H1 a (.ins C dx (putF f (.ref p) fs)))) :
    tSeq (sFld K ta tv f) tz D σ H := hv H (Ex.refl H) _ fun p H1 hp e1 hP => h H1 e1 _ fun H2 e2 => ⟨a, C, dx, fs, rfl, (e1.trans e2) a _ ho, c, n, hl, k p H2 hp (e1.trans e2) ⟨H1, hP, e2⟩⟩
theorem s_fldputF {a dx : Addr} {fs : List (Str × V)} {f : Str} {P : Addr → Hp → Prop} (ho : H a = some (.ins C dx fs)) (c : Cls K C) (n : NoAttr K C f) (hl : fs.length < 1000) (h : Ev ta σ H (.ref a)) (hv : EvG tv σ H (RetF P))
    (k : ∀ p H1, H p = none → Ex H H1 → (∃ H0, P p H0 ∧ Ex H0 H1) → D.nx σ (upd H1 a (.ins C dx (putF f (.ref p) fs)))) :
    sFld K ta tv f D σ H := hv H (Ex.refl H) _ fun p H1 hp e1 hP => h H1 e1 _ fun H2 e2 => ⟨a, C, dx, fs, rfl, (e1.trans e2) a _ ho, c, n, hl, k p H2 hp (e1.trans e2) ⟨H1, hP, e2⟩⟩
/-! built-ins -/
theorem rv_isN : RV rIsN x .non H (.bl (decide (x = .non))) := fun H1 _ _ q => ⟨rfl, q H1 (Ex.refl H1)⟩
theorem rv_notN : RV rNotN x .non H (.bl (!decide (x = .non))) := fun H1 _ _ q => ⟨rfl, q H1 (Ex.refl H1)⟩
theorem ev_lenT {p : Addr} {xs : List V} (ha : Ev ta σ H (.ref p)) (h : SqT K H p xs) : Ev (tCB (rLenS K) (tCons ta tNil)) σ H (.int (xs.length : Int)) := fun H1 e Q q =>
  ha H1 e _ fun H2 e2 => ⟨p, xs, rfl, Or.inr (ex_t (e.trans e2) h), q H2 e2⟩
def rLenStr : List V → Hp → VK → Prop := fun xs H Q => ∃ z : Str, xs = [.str z] ∧ z.length ≤ sizeLine ∧ Q (.int z.length) H
theorem ev_lenStr {z : Str} (ha : Ev ta σ H (.str z)) (hl : z.length ≤ 100000) : Ev (tCB rLenStr (tCons ta tNil)) σ H (.int (z.length : Int)) := fun H1 e Q q =>
  ha H1 e _ fun H2 e2 => ⟨z, rfl, sz_of hl, q H2 e2⟩
theorem ev_all {bs : List Bool} (h : EvL te σ H (bs.map V.bl)) : Ev (tCB (rAll K) (tCons te tNil)) σ H (.bl (bs.all id)) := fun H1 e Q q =>
  h H1 e _ fun p H2 _ e2 hp => ⟨p, bs, rfl, sq_of hp, q H2 e2⟩
theorem ev_sum {p : Addr} {ns : List Int} (ha : Ev ta σ H (.ref p)) (h : SqL K H p (ns.map V.int)) : Ev (tCB (rSum K) (tCons ta tNil)) σ H (.int ns.sum) := fun H1 e Q q =>
  ha H1 e _ fun H2 e2 => ⟨p, ns, rfl, ex_l (e.trans e2) h, q H2 e2⟩
def rInt1 : List V → Hp → VK → Prop := fun xs H Q => (∃ i, xs = [.int i] ∧ Q (.int i) H) ∨ ∃ k, xs = [.bl k] ∧ Q (.int (if k then 1 else 0)) H
theorem ev_int {i : Int} (ha : Ev ta σ H (.int i)) : Ev (tCB rInt1 (tCons ta tNil)) σ H (.int i) := fun H1 e Q q => ha H1 e _ fun H2 e2 => .inl ⟨i, rfl, q H2 e2⟩
theorem ev_intB {b : Bool} (ha : Ev ta σ H (.bl b)) : Ev (tCB rInt1 (tCons ta tNil)) σ H (.int (if b then 1 else 0)) := fun H1 e Q q => ha H1 e _ fun H2 e2 => .inr ⟨b, rfl, q H2 e2⟩
def rTupOf (K : PySem.W.Frag) : List V → Hp → VK → Prop := fun xs H Q => ∃ p ys, xs = [.ref p] ∧ ((SqL K H p ys ∧ ∀ l, H l = none → Q (.ref l) (upd H l (.tup ys))) ∨ (SqT K H p ys ∧ Q (.ref p) H))
theorem eu_tupOf {xs : List V} (h : EvL te σ H xs) : EvU (tCB (rTupOf K) (tCons te tNil)) σ H xs := fun H1 e Q q =>
  h H1 e _ fun p H2 _ e2 hp => ⟨p, xs, rfl, .inl ⟨sq_of hp, fun l hl => q l _ (fresh_back e2 hl) (e2.trans (Ex.new hl)) upd_same⟩⟩
theorem eu_tupOfV {p : Addr} {xs : List V} (h : Ev te σ H (.ref p)) (hx : SqL K H p xs) : EvU (tCB (rTupOf K) (tCons te tNil)) σ H xs := fun H1 e Q q =>
  h H1 e _ fun H2 e2 => ⟨p, xs, rfl, .inl ⟨ex_l (e.trans e2) hx, fun l hl => q l _ (fresh_back e2 hl) (e2.trans (Ex.new hl)) upd_same⟩⟩
theorem el_listT {p : Addr} {xs : List V} (ha : Ev ta σ H (.ref p)) (h : SqT K H p xs) : EvL (tCB (rListS K) (tCons ta tNil)) σ H xs := fun H1 e Q q =>
  ha H1 e _ fun H2 e2 => ⟨p, xs, rfl, Or.inr (ex_t (e.trans e2) h), fun l hl => q l _ (fresh_back e2 hl) (e2.trans (Ex.new hl)) upd_same⟩
theorem rc_isi {a b : String} {q : Bool} (h : kitB a b = some q) (hm : ∀ H1, Ex H H1 → TyX K H1 x (.type a)) : RC (rIsi K) [x, .ty b] H (.bl q) :=
  fun H1 e Q k => ⟨x, .ty b, .type a, .type b, q, rfl, .ty b, hm H1 e, kit_ty h, k H1 (Ex.refl H1)⟩
theorem ex_ty {H H1 : Hp} (e : Ex H H1) {x : V} {t : Value} (h : TyX K H x t) : TyX K H1 x t := by
  cases h with
  | base h => cases h with
    | non => exact .base .non
    | bl b => exact .base (.bl b)
    | int i => exact .base (.int i)
    | str z => exact .base (.str z)
    | flt z => exact .base (.flt z)
    | lst h => exact .base (.lst (e _ _ h))
    | frz h => exact .base (.frz (e _ _ h))
    | tup h => exact .base (.tup (e _ _ h))
    | dK h => exact .base (.dK (e _ _ h))
    | dT h => exact .base (.dT (e _ _ h))
    | ins h c a b d f => exact .base (.ins (e _ _ h) c a b d f)
  | byt b => exact .byt b
  | set h => exact .set (e _ _ h)
  | kList h c => exact .kList h c
  | kTuple h c => exact .kTuple h c
  | kDict h c => exact .kDict h c
  | fTuple h => exact .fTuple (e _ _ h)
  | fDict h => exact .fDict (e _ _ h)
theorem rc_is {a b : String} {q : Bool} (ty : TyX K H x (.type a)) (h : kitB a b = some q) : RC (rIsi K) [x, .ty b] H (.bl q) := rc_isi h fun _ e => ex_ty e ty
theorem ty_tup {p : Addr} {xs : List V} (h : SqT K H p xs) : TyX K H (.ref p) (.type "tuple") := by
  rcases h with (h | ⟨o, h⟩) | ⟨o, its, n, h, c, _⟩
  · exact .base (.tup h)
  · exact .fTuple h
  · exact .kTuple h c
/-- isinstance(x, T) as a test -/
theorem et_isi {a b : String} {q : Bool} (h : Ev ta σ H x) (ty : TyX K H x (.type a)) (hk : kitB a b = some q) : EvT (tB (tCB (rIsi K) (tCons ta (tCons (tC (.ty b)) tNil)))) σ H q :=
  et_B (ev_cb (ea_cons h (ea_cons ev_c ea_nil)) (rc_is ty hk))
theorem ev_isi {a b : String} {q : Bool} (h : Ev ta σ H x) (ty : TyX K H x (.type a)) (hk : kitB a b = some q) : Ev (tCB (rIsi K) (tCons ta (tCons (tC (.ty b)) tNil))) σ H (.bl q) :=
  ev_cb (ea_cons h (ea_cons ev_c ea_nil)) (rc_is ty hk)
/-- x in (..) | [..], made on the way, as a test, its answer told -/
theorem et_inU {ta' : TA} {xs : List V} {b : Bool} (ha : Ev ta σ H x) (hb : EvA ta' σ H xs) (hl : xs.length ≤ 100000) (hx : flatV x = true) (hf : xs.all flatV = true) (he : inV x xs = b) : EvT (tTest (tOp (rIn K false) ta (tTup ta'))) σ H b :=
  et_test (ev_is (ev_inU ha (eu_tup hb hl) hx hf) (by rw [he]))
theorem et_niU {ta' : TA} {xs : List V} {b : Bool} (ha : Ev ta σ H x) (hb : EvA ta' σ H xs) (hl : xs.length ≤ 100000) (hx : flatV x = true) (hf : xs.all flatV = true) (he : (!inV x xs) = b) : EvT (tTest (tOp (rIn K true) ta (tTup ta'))) σ H b :=
  et_test (ev_is (ev_niU ha (eu_tup hb hl) hx hf) (by rw [he]))
theorem et_inLs {ta' : TA} {xs : List V} {b : Bool} (ha : Ev ta σ H x) (hb : EvA ta' σ H xs) (hl : xs.length ≤ 100000) (hx : flatV x = true) (hf : xs.all flatV = true) (he : inV x xs = b) : EvT (tTest (tOp (rIn K false) ta (tLst ta'))) σ H b :=
  et_test (ev_is (ev_opL ha (el_lst hb hl) fun _ _ h _ => rv_isL (sq_of h) hx hf) (by rw [he]))
end
/-! ### loops and comprehensions -/
/-- all but lists stays -/
def ExT (H H' : Hp) : Prop := ∀ a o, H a = some o → (∀ xs, o ≠ .lst xs) → H' a = some o
theorem Ex.toT {H H' : Hp} (e : Ex H H') : ExT H H' := fun a o h _ => e a o h
theorem ExT.refl (H : Hp) : ExT H H := fun _ _ h _ => h
theorem ExT.trans {H H1 H2 : Hp} (a : ExT H H1) (b : ExT H1 H2) : ExT H H2 := fun x o h n => b x o (a x o h n) n
theorem ExT.lst {H : Hp} {p : Addr} {xs : List V} {o : HO} (h : H p = some (.lst xs)) : ExT H (upd H p o) := fun a u e n => by
  by_cases z : a = p
  · rw [z, h] at e
    cases e
    exact absurd rfl (n xs)
  · rw [upd_ne z]
    exact e
theorem ext_t {K : PySem.W.Frag} {H H' : Hp} (e : ExT H H') {a : Addr} {xs : List V} (h : SqT K H a xs) : SqT K H' a xs := by
  rcases h with (h | ⟨o, h⟩) | h
  · exact .inl (.inl (e _ _ h fun _ q => by cases q))
  · exact .inl (.inr ⟨o, e _ _ h fun _ q => by cases q⟩)
  · exact .inr h
section
variable {K : PySem.W.Frag} {σ : L2.St} {H H' : Hp} {te tk tl : TE} {tt : TT} {D : Ends} {tu tz : TS} {g : TG} {j : Nat} {vs : List Nat}
/-- what a comprehension has made so far -/
def CwP (H : Hp) (P : Nat → V → Hp → Prop) (Dl : Addr) (i : Nat) (H' : Hp) : Prop :=
  H Dl = none ∧ Ex H H' ∧ ∃ ys : List V, H' Dl = some (.lst ys) ∧ ys.length = i ∧ ∀ (j : Nat) v, ys[j]? = some v → P j v H'
theorem cwP_turn {P : Nat → V → Hp → Prop} {Dl : Addr} {i : Nat} {σ2 : L2.St} (hP : ∀ j v H1 H2, ExT H1 H2 → P j v H1 → P j v H2) (p : CwP H P Dl i H') (hi : i < 50000) (he : EvG te σ2 H (RetP (P i))) :
    tYes σ2 H' fun b H3 => if b = true then te σ2 H3 fun y H4 => ∃ acc, H4 Dl = some (.lst acc) ∧ acc.length < sizeLine ∧ CwP H P Dl (i + 1) (upd H4 Dl (.lst (acc ++ [y]))) else CwP H P Dl (i + 1) H3 := by
  obtain ⟨p1, p2, ys, p3, p4, p5⟩ := p
  show te σ2 H' fun y H4 => _
  refine he H' p2 _ fun y H4 e4 hy => ⟨ys, e4 Dl _ p3, sz_lt (by omega), p1, Ex.mut (p2.trans e4) p1, ys ++ [y], upd_same, by simp [p4], fun j v hj => ?_⟩
  have h4 : H4 Dl = some (.lst ys) := e4 Dl _ p3
  by_cases hlt : j < ys.length
  · rw [List.getElem?_append_left hlt] at hj
    exact hP _ _ _ _ (ExT.lst h4) (hP _ _ _ _ (Ex.toT e4) (p5 j v hj))
  · rw [List.getElem?_append_right (by omega)] at hj
    have hj0 : j - ys.length = 0 := by
      cases hjj : j - ys.length with
      | zero => rfl
      | succ n => rw [hjj] at hj; simp at hj
    rw [hj0] at hj
    have ev : y = v := by simpa using hj
    have ej : j = i := by omega
    subst ev ej
    exact hP _ _ _ _ (ExT.lst h4) hy
/-- the word behind a comprehension -/
def LcW (n : Nat) (P : Nat → V → Hp → Prop) : Hp → VK → Prop := RetF fun p H2 => ∃ ys : List V, H2 p = some (.lst ys) ∧ ys.length = n ∧ ∀ (j : Nat) v, ys[j]? = some v → P j v H2
theorem eg_lcL {a : Addr} {xs : List V} {P : Nat → V → Hp → Prop} (hP : ∀ j v H1 H2, ExT H1 H2 → P j v H1 → P j v H2) (h : Ev tl σ H (.ref a)) (hx : SqL K H a xs) (hz : xs.length ≤ 40000) (hw : ∀ x, wipe ((wipe σ vs).set j (some x)) vs = wipe σ vs)
    (he : ∀ (i : Nat) (x : V) H1, Ex H H1 → xs[i]? = some x → EvG te ((wipe σ vs).set j (some x)) H1 (RetP (P i))) : EvG (tLc (iList K tl) (gName j) tYes te vs) σ H (LcW xs.length P) := fun H0 e Q q => h H0 e _ fun H1 e1 => ⟨a, rfl, ⟨xs, ex_l (e.trans e1) hx⟩, fun Dl hD =>
  lc_list (xs := xs) (CwP H1 P Dl) ⟨hD, Ex.new hD, [], upd_same, rfl, fun j v hj => by simp at hj⟩ (fun i H' _ p => ex_l ((e.trans e1).trans p.2.1) hx) (fun i x H' hi p => ⟨hw x, cwP_turn hP p (by have := (List.getElem?_eq_some_iff.mp hi).1; omega) (he i x H1 (e.trans e1) hi)⟩)
    (fun H' p => q Dl H' (fresh_back e1 p.1) (e1.trans p.2.1) p.2.2)⟩
theorem eg_lcNL {xs : List V} {P : Nat → V → Hp → Prop} (hP : ∀ j v H1 H2, ExT H1 H2 → P j v H1 → P j v H2) (h : EvL tl σ H xs) (hz : xs.length ≤ 40000) (hw : ∀ x, wipe ((wipe σ vs).set j (some x)) vs = wipe σ vs)
    (he : ∀ (i : Nat) (x : V) H1, Ex H H1 → xs[i]? = some x → EvG te ((wipe σ vs).set j (some x)) H1 (RetP (P i))) : EvG (tLc (iList K tl) (gName j) tYes te vs) σ H (LcW xs.length P) := fun H0 e Q q => h H0 e _ fun a H1 ha e1 hx => ⟨a, rfl, ⟨xs, sq_of hx⟩, fun Dl hD =>
  lc_list (xs := xs) (CwP H1 P Dl) ⟨hD, Ex.new hD, [], upd_same, rfl, fun j v hj => by simp at hj⟩ (fun i H' _ p => sq_of (p.2.1 a _ hx)) (fun i x H' hi p => ⟨hw x, cwP_turn hP p (by have := (List.getElem?_eq_some_iff.mp hi).1; omega) (he i x H1 (e.trans e1) hi)⟩)
    (fun H' p => q Dl H' (fresh_back e1 p.1) (e1.trans p.2.1) p.2.2)⟩
theorem eg_lcT {a : Addr} {xs : List V} {P : Nat → V → Hp → Prop} (hP : ∀ j v H1 H2, ExT H1 H2 → P j v H1 → P j v H2) (h : Ev tl σ H (.ref a)) (hx : SqT K H a xs) (hz : xs.length ≤ 40000) (hw : ∀ x, wipe ((wipe σ vs).set j (some x)) vs = wipe σ vs)
    (he : ∀ (i : Nat) (x : V) H1, Ex H H1 → xs[i]? = some x → EvG te ((wipe σ vs).set j (some x)) H1 (RetP (P i))) : EvG (tLc (iTup K tl) (gName j) tYes te vs) σ H (LcW xs.length P) := fun H0 e Q q => h H0 e _ fun H1 e1 => ⟨a, rfl, ⟨xs, ex_t (e.trans e1) hx⟩, fun Dl hD =>
  lc_tup (xs := xs) (CwP H1 P Dl) ⟨hD, Ex.new hD, [], upd_same, rfl, fun j v hj => by simp at hj⟩ (fun i H' _ p => ex_t ((e.trans e1).trans p.2.1) hx) (fun i x H' hi p => ⟨hw x, cwP_turn hP p (by have := (List.getElem?_eq_some_iff.mp hi).1; omega) (he i x H1 (e.trans e1) hi)⟩)
    (fun H' p => q Dl H' (fresh_back e1 p.1) (e1.trans p.2.1) p.2.2)⟩
theorem eg_lcR {ta : TA} {n : Nat} {P : Nat → V → Hp → Prop} (hP : ∀ j v H1 H2, ExT H1 H2 → P j v H1 → P j v H2) (h : EvA ta σ H [.int (n : Int)]) (hn : n ≤ 40000) (hw : ∀ x, wipe ((wipe σ vs).set j (some x)) vs = wipe σ vs)
    (he : ∀ (i : Nat) H1, Ex H H1 → i < n → EvG te ((wipe σ vs).set j (some (.int (i : Int)))) H1 (RetP (P i))) : EvG (tLc (iRng1 ta) (gName j) tYes te vs) σ H (LcW n P) := fun H0 e Q q => h H0 e _ fun H1 e1 => ⟨(n : Int), rfl, by omega, by omega, fun Dl hD =>
  lc_range (lo := 0) (n := ((n : Int)).toNat) (CwP H1 P Dl) ⟨hD, Ex.new hD, [], upd_same, rfl, fun j v hj => by simp at hj⟩ (fun i H' hi p => by
    have e0 : (0 : Int) + (i : Int) = (i : Int) := Int.zero_add _
    show wipe ((wipe σ vs).set j (some (.int ((0 : Int) + (i : Int))))) vs = wipe σ vs ∧ tYes ((wipe σ vs).set j (some (.int ((0 : Int) + (i : Int))))) H' fun b H3 => if b = true then te ((wipe σ vs).set j (some (.int ((0 : Int) + (i : Int))))) H3 fun y H4 => ∃ acc, H4 Dl = some (.lst acc) ∧ acc.length < sizeLine ∧ CwP H1 P Dl (i + 1) (upd H4 Dl (.lst (acc ++ [y]))) else CwP H1 P Dl (i + 1) H3
    rw [e0]
    exact ⟨hw _, cwP_turn hP p (by omega) (he i H1 (e.trans e1) (by omega))⟩) (fun H' p => q Dl H' (fresh_back e1 p.1) (e1.trans p.2.1) (by
      obtain ⟨ys, h1, h2, h3⟩ := p.2.2
      exact ⟨ys, h1, by rw [h2, Int.toNat_natCast], h3⟩))⟩
/-- the items are told -/
theorem el_of_lc {n : Nat} {ys : List V} (hl : ys.length = n) (h : EvG te σ H (LcW n fun j v _ => ys[j]? = some v)) : EvL te σ H ys := fun H1 e Q q =>
  h H1 e Q fun p H2 hp e2 hh => by
    obtain ⟨zs, h1, h2, h3⟩ := hh
    have ez : zs = ys := by
      apply List.ext_getElem?
      intro i
      by_cases hi : i < zs.length
      · have := h3 i zs[i] (List.getElem?_eq_getElem hi)
        rw [List.getElem?_eq_getElem hi, this]
      · rw [List.getElem?_eq_none (by omega), List.getElem?_eq_none (by omega)]
    rw [ez] at h1
    exact q p H2 hp e2 h1
theorem eg_P {y : V} {P : V → Hp → Prop} (h : Ev te σ H y) (hp : ∀ H1, Ex H H1 → P y H1) : EvG te σ H (RetP P) := fun H1 e Q q => h H1 e Q fun H2 e2 => q y H2 e2 (hp H2 (e.trans e2))
theorem el_mapL {a : Addr} {xs ys : List V} (h : Ev tl σ H (.ref a)) (hx : SqL K H a xs) (hz : xs.length ≤ 40000) (hl : ys.length = xs.length) (hw : ∀ x, wipe ((wipe σ vs).set j (some x)) vs = wipe σ vs)
    (he : ∀ (i : Nat) (x y : V) H1, Ex H H1 → xs[i]? = some x → ys[i]? = some y → Ev te ((wipe σ vs).set j (some x)) H1 y) : EvL (tLc (iList K tl) (gName j) tYes te vs) σ H ys :=
  el_of_lc hl (eg_lcL (fun _ _ _ _ _ q => q) h hx hz hw fun i x H1 e hi => by
    have hlt : i < ys.length := by rw [hl]; exact (List.getElem?_eq_some_iff.mp hi).1
    exact eg_P (he i x ys[i] H1 e hi (List.getElem?_eq_getElem hlt)) fun _ _ => List.getElem?_eq_getElem hlt)
theorem el_mapNL {xs ys : List V} (h : EvL tl σ H xs) (hz : xs.length ≤ 40000) (hl : ys.length = xs.length) (hw : ∀ x, wipe ((wipe σ vs).set j (some x)) vs = wipe σ vs)
    (he : ∀ (i : Nat) (x y : V) H1, Ex H H1 → xs[i]? = some x → ys[i]? = some y → Ev te ((wipe σ vs).set j (some x)) H1 y) : EvL (tLc (iList K tl) (gName j) tYes te vs) σ H ys :=
  el_of_lc hl (eg_lcNL (fun _ _ _ _ _ q => q) h hz hw fun i x H1 e hi => by
    have hlt : i < ys.length := by rw [hl]; exact (List.getElem?_eq_some_iff.mp hi).1
    exact eg_P (he i x ys[i] H1 e hi (List.getElem?_eq_getElem hlt)) fun _ _ => List.getElem?_eq_getElem hlt)
theorem el_mapT {a : Addr} {xs ys : List V} (h : Ev tl σ H (.ref a)) (hx : SqT K H a xs) (hz : xs.length ≤ 40000) (hl : ys.length = xs.length) (hw : ∀ x, wipe ((wipe σ vs).set j (some x)) vs = wipe σ vs)
    (he : ∀ (i : Nat) (x y : V) H1, Ex H H1 → xs[i]? = some x → ys[i]? = some y → Ev te ((wipe σ vs).set j (some x)) H1 y) : EvL (tLc (iTup K tl) (gName j) tYes te vs) σ H ys :=
  el_of_lc hl (eg_lcT (fun _ _ _ _ _ q => q) h hx hz hw fun i x H1 e hi => by
    have hlt : i < ys.length := by rw [hl]; exact (List.getElem?_eq_some_iff.mp hi).1
    exact eg_P (he i x ys[i] H1 e hi (List.getElem?_eq_getElem hlt)) fun _ _ => List.getElem?_eq_getElem hlt)
theorem el_mapR {ta : TA} {n : Nat} {ys : List V} (h : EvA ta σ H [.int (n : Int)]) (hn : n ≤ 40000) (hl : ys.length = n) (hw : ∀ x, wipe ((wipe σ vs).set j (some x)) vs = wipe σ vs)
    (he : ∀ (i : Nat) (y : V) H1, Ex H H1 → i < n → ys[i]? = some y → Ev te ((wipe σ vs).set j (some (.int (i : Int)))) H1 y) : EvL (tLc (iRng1 ta) (gName j) tYes te vs) σ H ys :=
  el_of_lc hl (eg_lcR (fun _ _ _ _ _ q => q) h hn hw fun i H1 e hi => by
    have hlt : i < ys.length := by rw [hl]; exact hi
    exact eg_P (he i ys[i] H1 e hi (List.getElem?_eq_getElem hlt)) fun _ _ => List.getElem?_eq_getElem hlt)
/-! a for over enumerate(list), the pair's names a and b -/
theorem forEnum {l : Addr} {xs : List V} {a b : Nat} (Pv : Nat → L2.St → Hp → Prop) (h0 : Pv 0 σ H) (hl : ∀ i σ' H', i ≤ xs.length → Pv i σ' H' → SqL K H' l xs)
    (hs : ∀ (i : Nat) x σ' H' H1, xs[i]? = some x → Pv i σ' H' → Ex H' H1 → tu { D with nx := Pv (i + 1), ct := Pv (i + 1), bk := D.nx } ((σ'.set a (some (.int (i : Int)))).set b (some x)) H1) (hd : ∀ σ' H', Pv xs.length σ' H' → D.nx σ' H') :
    ∃ W : Nat → Nat → L2.St → Hp → Prop, (∃ m, W 0 m σ H) ∧ ∀ i m σ H, W i m σ H →
      ((Ite K l).stop i H ∧ D.nx σ H) ∨ ((Ite K l).go i H ∧ ∃ N : L2.St → Hp → Prop, (∀ σ' H', N σ' H' → ∃ m', m' < m ∧ W (i + 1) m' σ' H') ∧ ∀ x H', (Ite K l).yld i H x H' → gTup K 2 (gCons (gName a) (gCons (gName b) gNil)) x σ H' fun σ2 H2 => tu { D with nx := N, ct := N, bk := D.nx } σ2 H2) :=
  for_it (walk_enum (K := K) (a := l) (xs := xs)) Pv h0 hl (fun i v σ' H' H1 hi p y => by
    obtain ⟨T, x, y, rfl, hT, rfl, ex, ey⟩ := y
    cases ex
    exact ⟨T, [.int (i : Int), y], rfl, .inl (.inl upd_same), rfl, .int (i : Int), [y], rfl, y, [], rfl, rfl, hs i y σ' H' _ ey p (Ex.new hT)⟩) hd
theorem s_forEnumN {xs : List V} {a b : Nat} (h : EvL te σ H xs) (Pv : Addr → Nat → L2.St → Hp → Prop) (h0 : ∀ p H1, H p = none → Ex H H1 → H1 p = some (.lst xs) → Pv p 0 σ H1) (hl : ∀ p i σ' H', i ≤ xs.length → Pv p i σ' H' → SqL K H' p xs)
    (hs : ∀ p (i : Nat) x σ' H' H1, xs[i]? = some x → Pv p i σ' H' → Ex H' H1 → tu { D with nx := Pv p (i + 1), ct := Pv p (i + 1), bk := D.nx } ((σ'.set a (some (.int (i : Int)))).set b (some x)) H1) (hd : ∀ p σ' H', Pv p xs.length σ' H' → D.nx σ' H') :
    tFor (iEnum K (tCons te tNil)) (gTup K 2 (gCons (gName a) (gCons (gName b) gNil))) tu D σ H := h H (Ex.refl H) _ fun p H1 hp e1 h1 => ⟨p, xs, rfl, sq_of h1, forEnum (Pv p) (h0 p H1 hp e1 h1) (hl p) (hs p) (hd p)⟩
theorem s_forEnumV {l : Addr} {xs : List V} {a b : Nat} (h : Ev te σ H (.ref l)) (hx : SqL K H l xs) (Pv : Nat → L2.St → Hp → Prop) (h0 : ∀ H1, Ex H H1 → Pv 0 σ H1) (hl : ∀ i σ' H', i ≤ xs.length → Pv i σ' H' → SqL K H' l xs)
    (hs : ∀ (i : Nat) x σ' H' H1, xs[i]? = some x → Pv i σ' H' → Ex H' H1 → tu { D with nx := Pv (i + 1), ct := Pv (i + 1), bk := D.nx } ((σ'.set a (some (.int (i : Int)))).set b (some x)) H1) (hd : ∀ σ' H', Pv xs.length σ' H' → D.nx σ' H') :
    tFor (iEnum K (tCons te tNil)) (gTup K 2 (gCons (gName a) (gCons (gName b) gNil))) tu D σ H := h H (Ex.refl H) _ fun H1 e1 => ⟨l, xs, rfl, ex_l e1 hx, forEnum Pv (h0 H1 e1) hl hs hd⟩
theorem s_forSt {z : Str} {a : Nat} (h : Ev te σ H (.str z)) (Pv : Nat → L2.St → Hp → Prop) (h0 : ∀ H1, Ex H H1 → Pv 0 σ H1)
    (hs : ∀ (i : Nat) (c : Nat) σ' H', z.cps[i]? = some c → Pv i σ' H' → tu { D with nx := Pv (i + 1), ct := Pv (i + 1), bk := D.nx } (σ'.set a (some (.str ⟨#[c]⟩))) H') (hd : ∀ σ' H', Pv z.cps.size σ' H' → D.nx σ' H') :
    tFor (iStr te) (gName a) tu D σ H := h H (Ex.refl H) _ fun H1 e1 => ⟨z, rfl, for_it walk_str Pv (h0 H1 e1) (fun _ _ _ _ _ => trivial) (fun i v σ' H' H2 hi p y => by
      obtain ⟨rfl, c, hc, rfl⟩ := y
      exact hs i c σ' H2 hc p) hd⟩
theorem q_forSt {z : Str} {a : Nat} (h : Ev te σ H (.str z)) (Pv : Nat → L2.St → Hp → Prop) (h0 : ∀ H1, Ex H H1 → Pv 0 σ H1)
    (hs : ∀ (i : Nat) (c : Nat) σ' H', z.cps[i]? = some c → Pv i σ' H' → tu { D with nx := Pv (i + 1), ct := Pv (i + 1), bk := tz D } (σ'.set a (some (.str ⟨#[c]⟩))) H') (hd : ∀ σ' H', Pv z.cps.size σ' H' → tz D σ' H') :
    tSeq (tFor (iStr te) (gName a) tu) tz D σ H := s_forSt (D := { D with nx := tz D }) h Pv h0 hs hd
theorem q_forEnumN {xs : List V} {a b : Nat} (h : EvL te σ H xs) (Pv : Addr → Nat → L2.St → Hp → Prop) (h0 : ∀ p H1, H p = none → Ex H H1 → H1 p = some (.lst xs) → Pv p 0 σ H1) (hl : ∀ p i σ' H', i ≤ xs.length → Pv p i σ' H' → SqL K H' p xs)
    (hs : ∀ p (i : Nat) x σ' H' H1, xs[i]? = some x → Pv p i σ' H' → Ex H' H1 → tu { D with nx := Pv p (i + 1), ct := Pv p (i + 1), bk := tz D } ((σ'.set a (some (.int (i : Int)))).set b (some x)) H1) (hd : ∀ p σ' H', Pv p xs.length σ' H' → tz D σ' H') :
    tSeq (tFor (iEnum K (tCons te tNil)) (gTup K 2 (gCons (gName a) (gCons (gName b) gNil))) tu) tz D σ H := s_forEnumN (D := { D with nx := tz D }) h Pv h0 hl hs hd
theorem q_forEnumV {l : Addr} {xs : List V} {a b : Nat} (h : Ev te σ H (.ref l)) (hx : SqL K H l xs) (Pv : Nat → L2.St → Hp → Prop) (h0 : ∀ H1, Ex H H1 → Pv 0 σ H1) (hl : ∀ i σ' H', i ≤ xs.length → Pv i σ' H' → SqL K H' l xs)
    (hs : ∀ (i : Nat) x σ' H' H1, xs[i]? = some x → Pv i σ' H' → Ex H' H1 → tu { D with nx := Pv (i + 1), ct := Pv (i + 1), bk := tz D } ((σ'.set a (some (.int (i : Int)))).set b (some x)) H1) (hd : ∀ σ' H', Pv xs.length σ' H' → tz D σ' H') :
    tSeq (tFor (iEnum K (tCons te tNil)) (gTup K 2 (gCons (gName a) (gCons (gName b) gNil))) tu) tz D σ H := s_forEnumV (D := { D with nx := tz D }) h hx Pv h0 hl hs hd
end
/-! ### a dict of texts and ints, as pairs -/
def kvI (q : Str × Int) : Key × V := (Sum.inr q.1, V.int q.2)
theorem valV_kvI (z : Str) : ∀ kn : List (Str × Int), valV (kn.map kvI) (.inr z) = (kn.lookup z).map V.int
  | [] => rfl
  | (x, i) :: r => by
    rw [List.map_cons, List.lookup_cons]
    by_cases e : x = z
    · subst e
      rw [valV_pos (p := kvI (x, i)) (k := .inr x) rfl]
      simp [kvI]
    · rw [valV_neg (p := kvI (x, i)) (fun q => e (by injection q)), valV_kvI z r]
      have : (z == x) = false := by simpa using fun q => e q.symm
      rw [this]
theorem lookup_none_of {α : Type} {z : Str} : ∀ {kn : List (Str × α)}, z ∉ kn.map (·.1) → kn.lookup z = none
  | [], _ => rfl
  | (x, i) :: r, h => by
    rw [List.lookup_cons]
    have h1 : z ≠ x := fun q => h (by simp [q])
    have h2 : (z == x) = false := by simpa using h1
    rw [h2]
    exact lookup_none_of fun q => h (by simp only [List.map_cons, List.mem_cons]; exact .inr q)
theorem lookup_some_of {α : Type} {z : Str} : ∀ {kn : List (Str × α)}, z ∈ kn.map (·.1) → ∃ i, kn.lookup z = some i
  | [], h => by simp at h
  | (x, i) :: r, h => by
    rw [List.lookup_cons]
    by_cases e : z = x
    · subst e
      exact ⟨i, by simp⟩
    · have h2 : (z == x) = false := by simpa using e
      rw [h2]
      simp only [List.map_cons, List.mem_cons] at h
      exact lookup_some_of (h.resolve_left e)
theorem putK_kvI {kn : List (Str × Int)} {z : Str} (i : Int) (h : z ∉ kn.map (·.1)) : putK (kn.map kvI) (.inr z) (.int i) = (kn ++ [(z, i)]).map kvI := by
  rw [putK_new _ (by rw [valV_kvI, lookup_none_of h]; rfl), List.map_append]
  rfl
/-! ### a set kept as a dict of True -/
def kvT (z : Str) : Key × V := (Sum.inr z, V.bl true)
theorem valV_kvT (z : Str) : ∀ ks : List Str, (valV (ks.map kvT) (.inr z)).isSome = decide (z ∈ ks)
  | [] => by simp [valV_nil]
  | x :: r => by
    rw [List.map_cons]
    by_cases e : x = z
    · subst e
      rw [valV_pos (p := kvT x) (k := .inr x) rfl]
      simp
    · rw [valV_neg (p := kvT x) (fun q => e (by injection q)), valV_kvT z r]
      have : z ≠ x := fun q => e q.symm
      simp [this]
/-- z put into the set -/
def ins (ks : List Str) (z : Str) : List Str := if z ∈ ks then ks else ks ++ [z]
theorem putK_kvT (ks : List Str) (z : Str) : putK (ks.map kvT) (.inr z) (.bl true) = (ins ks z).map kvT := by
  unfold ins
  by_cases h : z ∈ ks
  · rw [if_pos h]
    unfold putK
    rw [valV_any, valV_kvT, if_pos (by simpa using h), List.map_map]
    apply List.map_congr_left
    intro x _
    show (if (Sum.inr x : Key) = Sum.inr z then _ else _) = _
    split <;> rfl
  · rw [if_neg h, putK_new _ (by
      have := valV_kvT z ks
      cases q : valV (ks.map kvT) (.inr z) with
      | none => rfl
      | some v => rw [q] at this; simp [h] at this), List.map_append]
    rfl
/-! ### data -/
mutual
theorem Dp.mono {K : PySem.W.Frag} {H H' : Hp} (e : Ex H H') : ∀ {v : V} {d : PyData}, Dp K H v d → Dp K H' v d
  | _, _, .non => .non
  | _, _, .bl b => .bl b
  | _, _, .int i => .int i
  | _, _, .str x => .str x
  | _, _, .lst h hs => .lst (ex_l e h) (DpAll.mono e hs)
  | _, _, .tup h hs => .tup (ex_t e h) (DpAll.mono e hs)
theorem DpAll.mono {K : PySem.W.Frag} {H H' : Hp} (e : Ex H H') : ∀ {vs : List V} {ds : List PyData}, DpAll K H vs ds → DpAll K H' vs ds
  | _, _, .nil => .nil
  | _, _, .cons h hs => .cons (Dp.mono e h) (DpAll.mono e hs)
end
/-- data that == may look at, at most n deep -/
def Sh (n : Nat) (d : PyData) : Prop := d.canLay0 = true ∧ d.depth ≤ n
theorem sh_all {n : Nat} : ∀ {ds : List PyData}, (∀ d ∈ ds, Sh n d) → PyData.canLayAll0 ds = true ∧ PyData.depthAll ds ≤ n
  | [], _ => ⟨rfl, by simp [PyData.depthAll]⟩
  | d :: ds, h => by
    obtain ⟨a, b⟩ := sh_all (ds := ds) fun x hx => h x (List.mem_cons_of_mem _ hx)
    obtain ⟨c, e⟩ := h d List.mem_cons_self
    refine ⟨by rw [PyData.canLayAll0, c, a]; rfl, ?_⟩
    simp only [PyData.depthAll]
    omega
theorem sh_list {n : Nat} {ds : List PyData} (h : ∀ d ∈ ds, Sh n d) : Sh (n + 1) (.list ds) := by
  obtain ⟨a, b⟩ := sh_all h
  refine ⟨by rw [PyData.canLay0]; exact a, ?_⟩
  simp only [PyData.depth]
  omega
theorem sh_tup {n : Nat} {ds : List PyData} (h : ∀ d ∈ ds, Sh n d) : Sh (n + 1) (.tuple ds) := by
  obtain ⟨a, b⟩ := sh_all h
  refine ⟨by rw [PyData.canLay0]; exact a, ?_⟩
  simp only [PyData.depth]
  omega
theorem sh_int {n : Nat} (i : Int) : Sh n (.int i) := ⟨rfl, by simp [PyData.depth]⟩
theorem sh_str {n : Nat} {z : Str} (h : PyData.strOk z = true) : Sh n (.str z) := ⟨by rw [PyData.canLay0]; exact h, by simp [PyData.depth]⟩
theorem Sh.le {n m : Nat} {d : PyData} (h : Sh n d) (l : n ≤ m) : Sh m d := ⟨h.1, Nat.le_trans h.2 l⟩
theorem Sh.ok {n : Nat} {d : PyData} (h : Sh n d) (hn : n ≤ 64) : SeqAt.shaped d = true := by
  show (d.canLay0 && decide (d.depth ≤ 64)) = true
  rw [Bool.and_eq_true]
  exact ⟨h.1, decide_eq_true (Nat.le_trans h.2 hn)⟩
theorem dpAll_of {K : PySem.W.Frag} {H : Hp} {α : Type} {f : α → V} {g : α → PyData} : ∀ {xs : List α}, (∀ x ∈ xs, Dp K H (f x) (g x)) → DpAll K H (xs.map f) (xs.map g)
  | [], _ => .nil
  | x :: xs, h => .cons (h x List.mem_cons_self) (dpAll_of fun y hy => h y (List.mem_cons_of_mem _ hy))
section
variable {K : PySem.W.Frag} {σ : L2.St} {H H' : Hp} {te tk tv tl ta tb : TE} {tt : TT} {D : Ends} {tu tz : TS} {g : TG} {j : Nat} {vs : List Nat} {x y v : V} {C : Addr} {sp : Sp} {E : XK}
theorem rv_eqD {d e : PyData} {b : Bool} (hx : Dp K H x d) (hy : Dp K H y e) (sx : SeqAt.shaped d = true) (sy : SeqAt.shaped e = true) (hb : PyData.eqv d e = b) : RV (rEqD K) x y H (.bl b) :=
  fun H1 e1 _ q => ⟨d, e, Dp.mono e1 hx, Dp.mono e1 hy, sx, sy, by rw [hb]; exact q H1 (Ex.refl H1)⟩
theorem rv_neD {d e : PyData} {b : Bool} (hx : Dp K H x d) (hy : Dp K H y e) (sx : SeqAt.shaped d = true) (sy : SeqAt.shaped e = true) (hb : (!PyData.eqv d e) = b) : RV (rNeD K) x y H (.bl b) :=
  fun H1 e1 _ q => ⟨d, e, Dp.mono e1 hx, Dp.mono e1 hy, sx, sy, by rw [hb]; exact q H1 (Ex.refl H1)⟩
/-! lists put together -/
theorem el_cat {xs ys : List V} (ha : EvL ta σ H xs) (hb : EvL tb σ H ys) (hl : xs.length + ys.length ≤ 100000) : EvL (tOp rCat ta tb) σ H (xs ++ ys) := fun H1 e Q q =>
  ha H1 e _ fun a H2 ha2 e2 hx => hb H2 (e.trans e2) _ fun b H3 hb3 e3 hy => ⟨a, b, xs, ys, rfl, rfl, e3 a _ hx, hy, sz_of hl, fun p hp => q p _ (fresh_back (e2.trans e3) hp) ((e2.trans e3).trans (Ex.new hp)) upd_same⟩
theorem el_catV {a : Addr} {xs ys : List V} (ha : Ev ta σ H (.ref a)) (hx : H a = some (.lst xs)) (hb : EvL tb σ H ys) (hl : xs.length + ys.length ≤ 100000) : EvL (tOp rCat ta tb) σ H (xs ++ ys) := fun H1 e Q q =>
  ha H1 e _ fun H2 e2 => hb H2 (e.trans e2) _ fun b H3 hb3 e3 hy => ⟨a, b, xs, ys, rfl, rfl, ((e.trans e2).trans e3) a _ hx, hy, sz_of hl, fun p hp => q p _ (fresh_back (e2.trans e3) hp) ((e2.trans e3).trans (Ex.new hp)) upd_same⟩
/-- a tuple, there or new -/
def TupP (K : PySem.W.Frag) (xs : List V) : V → Hp → Prop := fun v H => ∃ p, v = .ref p ∧ SqT K H p xs
theorem eg_catT {a b : Addr} {xs ys : List V} (ha : Ev ta σ H (.ref a)) (hb : Ev tb σ H (.ref b)) (hx : SqT K H a xs) (hy : SqT K H b ys) (hl : xs.length + ys.length ≤ 100000) : EvG (tOp (rCatA K) ta tb) σ H (RetP (TupP K (xs ++ ys))) := fun H1 e Q q =>
  ha H1 e _ fun H2 e2 => hb H2 (e.trans e2) _ fun H3 e3 => ⟨a, b, xs, ys, rfl, rfl, ex_t ((e.trans e2).trans e3) hx, ex_t ((e.trans e2).trans e3) hy, sz_of hl,
    fun h0 => q _ H3 (e2.trans e3) ⟨b, rfl, by rw [h0]; exact ex_t ((e.trans e2).trans e3) hy⟩,
    fun _ h0 => q _ H3 (e2.trans e3) ⟨a, rfl, by rw [h0, List.append_nil]; exact ex_t ((e.trans e2).trans e3) hx⟩,
    fun _ _ p hp => q _ _ ((e2.trans e3).trans (Ex.new hp)) ⟨p, rfl, st_of upd_same⟩⟩
/-! dict comprehensions -/
/-- a dict comprehension over what a Walk tells -/
theorem dc_it {J : It} {len : Nat} {Inn : Hp → Prop} {Yd : Nat → Hp → V → Hp → Prop} (walk : Walk J len Inn Yd) {B : Hp} {at_ : Addr} {Fin : Hp → Prop} (Pv : Nat → Hp → Prop) (first : Pv 0 (upd B at_ (.dK []))) (inn : ∀ t C, t ≤ len → Pv t C → Inn C)
    (turn : ∀ t v C C', t < len → Pv t C → Yd t C v C' → g v (wipe σ vs) C' fun σ' A => wipe σ' vs = wipe σ vs ∧ tt σ' A fun yes A2 => if yes = true then tk σ' A2 fun key A3 => tv σ' A3 fun val A4 => ∃ es kk, key = kV kk ∧ A4 at_ = some (.dK es) ∧ es.length < sizeLine ∧ Pv (t + 1) (upd A4 at_ (.dK (putK es kk val))) else Pv (t + 1) A2) (last : ∀ C, Pv len C → Fin C) :
    ∃ Tn : Nat → Nat → Hp → Prop, (∃ left, Tn 0 left (upd B at_ (.dK []))) ∧ ∀ t left C, Tn t left C → (J.stop t C ∧ Fin C) ∨ (J.go t C ∧ ∃ Go : Hp → Prop, (∀ C', Go C' → ∃ fewer, fewer < left ∧ Tn (t + 1) fewer C') ∧ ∀ v C', J.yld t C v C' → g v (wipe σ vs) C' fun σ' A => wipe σ' vs = wipe σ vs ∧ tt σ' A fun yes A2 =>
        if yes = true then tk σ' A2 fun key A3 => tv σ' A3 fun val A4 => ∃ es kk, key = kV kk ∧ A4 at_ = some (.dK es) ∧ es.length < sizeLine ∧ Go (upd A4 at_ (.dK (putK es kk val))) else Go A2) := by
  refine ⟨fun t left C => left = len - t ∧ t ≤ len ∧ Pv t C, ⟨len, rfl, Nat.zero_le _, first⟩, fun t left C ⟨hl, ht, hp⟩ => ?_⟩
  have hi := inn t C ht hp
  rcases Nat.lt_or_eq_of_le ht with hlt | heq
  · exact .inr ⟨walk.goes t C hlt hi, Pv (t + 1), fun C' h => ⟨len - (t + 1), by omega, rfl, hlt, h⟩, fun v C' y => turn t v C C' hlt hp (walk.yields t C v C' hlt hi y)⟩
  · subst heq
    exact .inl ⟨walk.stops C hi, last C hp⟩
/-- what a dict comprehension has made so far, told ahead: the first i of kvs -/
def DcW (H : Hp) (kvs : List (Key × V)) (Dl : Addr) (i : Nat) (H' : Hp) : Prop := H Dl = none ∧ Ex H H' ∧ H' Dl = some (.dK (kvs.take i))
theorem dcW_turn {kvs : List (Key × V)} {Dl : Addr} {i : Nat} {σ2 : L2.St} {z : Str} {v : V} (nd : (kvs.map (·.1)).Nodup) (hz : kvs.length ≤ 40000) (p : DcW H kvs Dl i H') (hi : kvs[i]? = some (.inr z, v)) (hk : Ev tk σ2 H (.str z)) (he : Ev tv σ2 H v) :
    tYes σ2 H' fun b H3 => if b = true then tk σ2 H3 fun y H4 => tv σ2 H4 fun u H5 => ∃ kvs' k, y = kV k ∧ H5 Dl = some (.dK kvs') ∧ kvs'.length < sizeLine ∧ DcW H kvs Dl (i + 1) (upd H5 Dl (.dK (putK kvs' k u))) else DcW H kvs Dl (i + 1) H3 := by
  obtain ⟨p1, p2, p3⟩ := p
  show tk σ2 H' fun y H4 => _
  refine hk H' p2 _ fun H4 e4 => he H4 (p2.trans e4) _ fun H5 e5 => ⟨kvs.take i, .inr z, rfl, e5 Dl _ (e4 Dl _ p3), sz_lt (by rw [List.length_take]; omega), p1, Ex.mut ((p2.trans e4).trans e5) p1, ?_⟩
  have hlt := (List.getElem?_eq_some_iff.mp hi).1
  have hn : valV (kvs.take i) (.inr z : Key) = none := by
    cases q : valV (kvs.take i) (.inr z : Key) with
    | none => rfl
    | some u =>
      have m := valV_in q
      obtain ⟨e, he, ee⟩ := List.mem_map.mp m
      obtain ⟨k, hk⟩ := List.mem_iff_getElem?.mp he
      rw [List.getElem?_take] at hk
      split at hk
      · rename_i hki
        have h1 : (kvs.map (·.1))[k]? = some (.inr z) := by rw [List.getElem?_map, hk]; simp [ee]
        have h2 : (kvs.map (·.1))[i]? = some (.inr z) := by rw [List.getElem?_map, hi]; rfl
        have := nd_ix nd h1 h2
        omega
      · cases hk
  rw [putK_new _ hn, upd_same, List.take_add_one, hi]
  rfl
theorem eg_dcT {a : Addr} {xs : List V} {kvs : List (Key × V)} (h : Ev tl σ H (.ref a)) (hx : SqT K H a xs) (hl : kvs.length = xs.length) (hz : kvs.length ≤ 40000) (nd : (kvs.map (·.1)).Nodup) (hw : ∀ x, wipe ((wipe σ vs).set j (some x)) vs = wipe σ vs)
    (he : ∀ (i : Nat) (x : V) (q : Key × V) H1, Ex H H1 → xs[i]? = some x → kvs[i]? = some q → ∃ z, q.1 = .inr z ∧ Ev tk ((wipe σ vs).set j (some x)) H1 (.str z) ∧ Ev tv ((wipe σ vs).set j (some x)) H1 q.2) :
    EvG (tDc (iTup K tl) (gName j) tYes tk tv vs) σ H (RetF fun p H2 => H2 p = some (.dK kvs)) := fun H0 e Q q => h H0 e _ fun H1 e1 => ⟨a, rfl, ⟨xs, ex_t (e.trans e1) hx⟩, fun Dl hD =>
  dc_it (walk_tup (K := K) (a := a) (xs := xs)) (DcW H1 kvs Dl) ⟨hD, Ex.new hD, upd_same⟩ (fun i H' _ p => ex_t ((e.trans e1).trans p.2.1) hx) (fun i x H2 H' hi p y => by
      obtain ⟨rfl, hy⟩ := y
      have hlt : i < kvs.length := by omega
      obtain ⟨z, hq, hk, hv⟩ := he i x kvs[i] H1 (e.trans e1) hy (List.getElem?_eq_getElem hlt)
      exact ⟨hw x, dcW_turn nd hz p (by rw [List.getElem?_eq_getElem hlt, ← hq]) hk hv⟩)
    (fun H' p => q Dl H' (fresh_back e1 p.1) (e1.trans p.2.1) (by
      have := p.2.2
      rwa [← hl, List.take_length] at this))⟩
theorem eg_dcNL {xs : List V} {kvs : List (Key × V)} (h : EvL tl σ H xs) (hl : kvs.length = xs.length) (hz : kvs.length ≤ 40000) (nd : (kvs.map (·.1)).Nodup) (hw : ∀ x, wipe ((wipe σ vs).set j (some x)) vs = wipe σ vs)
    (he : ∀ (i : Nat) (x : V) (q : Key × V) H1, Ex H H1 → xs[i]? = some x → kvs[i]? = some q → ∃ z, q.1 = .inr z ∧ Ev tk ((wipe σ vs).set j (some x)) H1 (.str z) ∧ Ev tv ((wipe σ vs).set j (some x)) H1 q.2) :
    EvG (tDc (iList K tl) (gName j) tYes tk tv vs) σ H (RetF fun p H2 => H2 p = some (.dK kvs)) := fun H0 e Q q => h H0 e _ fun a H1 ha e1 hx => ⟨a, rfl, ⟨xs, sq_of hx⟩, fun Dl hD =>
  dc_it (walk_list (K := K) (a := a) (xs := xs)) (DcW H1 kvs Dl) ⟨hD, Ex.new hD, upd_same⟩ (fun i H' _ p => sq_of (p.2.1 a _ hx)) (fun i x H2 H' hi p y => by
      obtain ⟨rfl, hy⟩ := y
      have hlt : i < kvs.length := by omega
      obtain ⟨z, hq, hk, hv⟩ := he i x kvs[i] H1 (e.trans e1) hy (List.getElem?_eq_getElem hlt)
      exact ⟨hw x, dcW_turn nd hz p (by rw [List.getElem?_eq_getElem hlt, ← hq]) hk hv⟩)
    (fun H' p => q Dl H' (fresh_back e1 p.1) (e1.trans p.2.1) (by
      have := p.2.2
      rwa [← hl, List.take_length] at this))⟩
/-! displays -/
theorem eg_disp1 {z : Str} (hk : Ev tk σ H (.str z)) (hv : Ev tv σ H v) : EvG (tDisp [(tk, tv)]) σ H (RetF fun p H2 => H2 p = some (.dK [(.inr z, v)])) := fun H1 e Q q p hp =>
  hk _ (e.trans (Ex.new hp)) _ fun H2 e2 => hv _ ((e.trans (Ex.new hp)).trans e2) _ fun H3 e3 => ⟨e3 p _ (e2 p _ upd_same), [(.inr z, v)], rfl, (by simp), q p _ hp (Ex.mut (((Ex.new hp).trans e2).trans e3) hp) (by dsimp only; rw [upd_same]; rfl)⟩
theorem eg_disp2 {tk2 tv2 : TE} {z z2 : Str} {v2 : V} (hn : z ≠ z2) (hk : Ev tk σ H (.str z)) (hv : Ev tv σ H v) (hk2 : Ev tk2 σ H (.str z2)) (hv2 : Ev tv2 σ H v2) : EvG (tDisp [(tk, tv), (tk2, tv2)]) σ H (RetF fun p H2 => H2 p = some (.dK [(.inr z, v), (.inr z2, v2)])) := fun H1 e Q q p hp =>
  hk _ (e.trans (Ex.new hp)) _ fun H2 e2 => hv _ ((e.trans (Ex.new hp)).trans e2) _ fun H3 e3 => hk2 _ (((e.trans (Ex.new hp)).trans e2).trans e3) _ fun H4 e4 => hv2 _ ((((e.trans (Ex.new hp)).trans e2).trans e3).trans e4) _ fun H5 e5 =>
    ⟨e5 p _ (e4 p _ (e3 p _ (e2 p _ upd_same))), [(.inr z, v), (.inr z2, v2)], rfl, (by simp), q p _ hp (Ex.mut (((((Ex.new hp).trans e2).trans e3).trans e4).trans e5) hp) (by
      dsimp only
      rw [upd_same]
      show some (HO.dK (putK (putK [] (.inr z) v) (.inr z2) v2)) = _
      have h1 : putK ([] : List (Key × V)) (.inr z) v = [(.inr z, v)] := rfl
      rw [h1, putK_new]
      · rfl
      · rw [valV_neg (p := ((.inr z : Key), v)) (fun c => hn (by injection c))]
        rfl)⟩
theorem el_rev {a : Addr} {xs : List V} (h : Ev te σ H (.ref a)) (hx : SqL K H a xs) : EvL (tRevL K te) σ H xs.reverse := fun H1 e Q q =>
  h H1 e _ fun H2 e2 => ⟨a, xs, rfl, ex_l (e.trans e2) hx, fun p hp => q p _ (fresh_back e2 hp) (e2.trans (Ex.new hp)) upd_same⟩
/-! loops that leave what stands as it is -/
theorem s_forT_ro {a : Addr} {xs : List V} (S : Nat → L2.St → Prop) (h : Ev tl σ H (.ref a)) (hx : SqT K H a xs) (h0 : S 0 σ)
    (hs : ∀ i x σ' H' (N : L2.St → Hp → Prop), xs[i]? = some x → S i σ' → Ex H H' → (∀ σ2 H2, S (i + 1) σ2 → Ex H' H2 → N σ2 H2) → tu { D with nx := N, ct := N, bk := D.nx } (σ'.set j (some x)) H') (hd : ∀ σ' H', S xs.length σ' → Ex H H' → D.nx σ' H') :
    tFor (iTup K tl) (gName j) tu D σ H :=
  s_forT h hx (fun i σ' H' => S i σ' ∧ Ex H H') (fun H1 e => ⟨h0, e⟩) (fun i σ' H' _ p => ex_t p.2 hx) (fun i x σ' H' hi p => hs i x σ' H' _ hi p.1 p.2 fun σ2 H2 q e => ⟨q, p.2.trans e⟩) fun σ' H' p => hd σ' H' p.1 p.2
theorem q_forT_ro {a : Addr} {xs : List V} (S : Nat → L2.St → Prop) (h : Ev tl σ H (.ref a)) (hx : SqT K H a xs) (h0 : S 0 σ)
    (hs : ∀ i x σ' H' (N : L2.St → Hp → Prop), xs[i]? = some x → S i σ' → Ex H H' → (∀ σ2 H2, S (i + 1) σ2 → Ex H' H2 → N σ2 H2) → tu { D with nx := N, ct := N, bk := tz D } (σ'.set j (some x)) H') (hd : ∀ σ' H', S xs.length σ' → Ex H H' → tz D σ' H') :
    tSeq (tFor (iTup K tl) (gName j) tu) tz D σ H := s_forT_ro (D := { D with nx := tz D }) S h hx h0 hs hd
theorem q_forTP_ro {xs : List V} (S : Nat → L2.St → Prop) (h : EvG tl σ H (RetP (TupP K xs))) (h0 : S 0 σ)
    (hs : ∀ i x σ' H' (N : L2.St → Hp → Prop), xs[i]? = some x → S i σ' → Ex H H' → (∀ σ2 H2, S (i + 1) σ2 → Ex H' H2 → N σ2 H2) → tu { D with nx := N, ct := N, bk := tz D } (σ'.set j (some x)) H') (hd : ∀ σ' H', S xs.length σ' → Ex H H' → tz D σ' H') :
    tSeq (tFor (iTup K tl) (gName j) tu) tz D σ H := h H (Ex.refl H) _ fun v H1 e1 hv => by
  obtain ⟨p, rfl, hp⟩ := hv
  exact ⟨p, rfl, ⟨_, hp⟩, for_tup (fun i σ' H' => S i σ' ∧ Ex H1 H') ⟨h0, Ex.refl _⟩ (fun i σ' H' _ q => ex_t q.2 hp) (fun i x σ' H' hi q => hs i x σ' H' _ hi q.1 (e1.trans q.2) fun σ2 H2 r e => ⟨r, q.2.trans e⟩) fun σ' H' q => hd σ' H' q.1 (e1.trans q.2)⟩
theorem q_forNL_ro {xs : List V} (S : Nat → L2.St → Prop) (h : EvL tl σ H xs) (h0 : S 0 σ)
    (hs : ∀ i x σ' H' (N : L2.St → Hp → Prop), xs[i]? = some x → S i σ' → Ex H H' → (∀ σ2 H2, S (i + 1) σ2 → Ex H' H2 → N σ2 H2) → tu { D with nx := N, ct := N, bk := tz D } (σ'.set j (some x)) H') (hd : ∀ σ' H', S xs.length σ' → Ex H H' → tz D σ' H') :
    tSeq (tFor (iList K tl) (gName j) tu) tz D σ H := h H (Ex.refl H) _ fun p H1 _ e1 hp =>
  ⟨p, rfl, ⟨_, sq_of hp⟩, for_list (K := K) (fun i σ' H' => S i σ' ∧ Ex H1 H') ⟨h0, Ex.refl _⟩ (fun i σ' H' _ q => ex_l q.2 (sq_of hp)) (fun i x σ' H' hi q => hs i x σ' H' _ hi q.1 (e1.trans q.2) fun σ2 H2 r e => ⟨r, q.2.trans e⟩) fun σ' H' q => hd σ' H' q.1 (e1.trans q.2)⟩
theorem q_forL_ro {a : Addr} {xs : List V} (S : Nat → L2.St → Prop) (h : Ev tl σ H (.ref a)) (hx : SqL K H a xs) (h0 : S 0 σ)
    (hs : ∀ i x σ' H' (N : L2.St → Hp → Prop), xs[i]? = some x → S i σ' → Ex H H' → (∀ σ2 H2, S (i + 1) σ2 → Ex H' H2 → N σ2 H2) → tu { D with nx := N, ct := N, bk := tz D } (σ'.set j (some x)) H') (hd : ∀ σ' H', S xs.length σ' → Ex H H' → tz D σ' H') :
    tSeq (tFor (iList K tl) (gName j) tu) tz D σ H :=
  s_forL (D := { D with nx := tz D }) h hx (fun i σ' H' => S i σ' ∧ Ex H H') (fun H1 e => ⟨h0, e⟩) (fun i σ' H' _ p => ex_l p.2 hx) (fun i x σ' H' hi p => hs i x σ' H' _ hi p.1 p.2 fun σ2 H2 q e => ⟨q, p.2.trans e⟩) fun σ' H' p => hd σ' H' p.1 p.2
end
end Pw

namespace Pw
open PySem PySem.Spec PyProof.Rows L2 Evl
/-! ### names, gates -/
def U : List Str := ["a", "b", "c", "d", "q0", "q1", "g0", "g1", "g2", "g3", "g4", "g5", "g6"]
abbrev zLet : Str := "abcdefghijklmnopqrstuvwxyz"
abbrev zFig : Str := "0123456789"
theorem U_ok : ∀ z ∈ U, decide (z = "") = false ∧ z.length ≤ 12 ∧ (∃ c, z.cps.toList[0]? = some c ∧ c ∈ zLet.cps.toList) ∧ ∀ c ∈ z.cps.toList, (!decide (c ∈ zLet.cps.toList)) = false ∨ (!decide (c ∈ zFig.cps.toList)) = false := by
  have h : (U.all fun z => !decide (z = "") && decide (z.length ≤ 12) && (match z.cps.toList[0]? with | some c => decide (c ∈ zLet.cps.toList) | none => false) && z.cps.toList.all fun c => decide (c ∈ zLet.cps.toList) || decide (c ∈ zFig.cps.toList)) = true := by decide +kernel
  intro z hz
  have h1 := List.all_eq_true.mp h z hz
  simp only [Bool.and_eq_true, Bool.not_eq_true', decide_eq_true_eq, List.all_eq_true, Bool.or_eq_true] at h1
  obtain ⟨⟨⟨a, b⟩, c⟩, d⟩ := h1
  refine ⟨a, b, ?_, fun c hc => ?_⟩
  · split at c
    · rename_i x hx
      exact ⟨x, hx, of_decide_eq_true c⟩
    · cases c
  · rcases d c hc with q | q
    · exact .inl (by simp [q])
    · exact .inr (by simp [q])
structure Gate where
  nm : Str
  kd : Str
  pins : List Str
def k0 : List Str := ["low", "high"]
def k1 : List Str := ["not", "buf"]
def k4 : List Str := ["and", "or", "nand", "nor", "xor", "xnor"]
def Allowed (k : Str) (n : Nat) : Prop := (k ∈ k0 ∧ n = 0) ∨ (k ∈ k1 ∧ n = 1) ∨ (k ∈ k4 ∧ 1 ≤ n ∧ n ≤ 4)
theorem k0_in : ∀ k ∈ k0, inV (.str k) [.str "low", .str "high"] = true := by decide +kernel
theorem k1_in : ∀ k ∈ k1, inV (.str k) [.str "low", .str "high"] = false ∧ inV (.str k) [.str "not", .str "buf"] = true := by decide +kernel
theorem k4_in : ∀ k ∈ k4, inV (.str k) [.str "low", .str "high"] = false ∧ inV (.str k) [.str "not", .str "buf"] = false ∧
    inV (.str k) [.str "and", .str "or", .str "nand", .str "nor", .str "xor", .str "xnor", .str "not", .str "buf", .str "low", .str "high"] = true := by decide +kernel
def GateAt (K : PySem.W.Frag) (H : Hp) (v : V) (g : Gate) : Prop := ∃ a q, v = .ref a ∧ SqT K H a [.str g.nm, .str g.kd, .ref q] ∧ SqT K H q (g.pins.map V.str)
def RegAt (K : PySem.W.Frag) (H : Hp) (v : V) (r : Str × Str) : Prop := ∃ a, v = .ref a ∧ SqT K H a [.str r.1, .str r.2]
section
variable {K : PySem.W.Frag} {H H' : Hp} {v : V}
theorem GateAt.mono {g : Gate} (e : Ex H H') (h : GateAt K H v g) : GateAt K H' v g := by
  obtain ⟨a, q, h1, h2, h3⟩ := h
  exact ⟨a, q, h1, ex_t e h2, ex_t e h3⟩
theorem RegAt.mono {r : Str × Str} (e : Ex H H') (h : RegAt K H v r) : RegAt K H' v r := by
  obtain ⟨a, h1, h2⟩ := h
  exact ⟨a, h1, ex_t e h2⟩
theorem map_at {α : Type} {f : α → V} {xs : List α} {i : Nat} {x : V} (h : (xs.map f)[i]? = some x) : ∃ y, xs[i]? = some y ∧ x = f y := by
  rw [List.getElem?_map] at h
  cases e : xs[i]? with
  | none => rw [e] at h; cases h
  | some y => rw [e] at h; exact ⟨y, rfl, (Option.some.inj h).symm⟩
theorem rv_notInS {c : Nat} {z : Str} : RV rNotInS (.str ⟨#[c]⟩) (.str z) H (.bl (!decide (c ∈ z.cps.toList))) := fun H1 _ _ q => ⟨c, z, rfl, rfl, q H1 (Ex.refl H1)⟩
/-- all of a list of names are names -/
def sp_is_integer (K : PySem.W.Frag) : Sp := fun vs H Q _ => ∃ i lo hi : Int, vs = [.int i, .int lo, .int hi] ∧ RetV (.bl (decide (lo ≤ i) && decide (i ≤ hi))) H Q
def bitB (i : Int) : Bool := decide (0 ≤ i) && decide (i ≤ 1)
def sp_is_bit (K : PySem.W.Frag) : Sp := fun vs H Q _ => ∃ i : Int, vs = [.int i] ∧ RetV (.bl (bitB i)) H Q
def sp_are_bits (K : PySem.W.Frag) : Sp := fun vs H Q _ => ∃ (a : Addr) (n : Nat) (bs : List Int), vs = [.ref a, .int (n : Int)] ∧ SqT K H a (bs.map V.int) ∧ bs.length ≤ 40000 ∧ RetV (.bl (decide (bs.length = n) && bs.all bitB)) H Q
def sp_is_name (K : PySem.W.Frag) : Sp := fun vs H Q _ => ∃ z : Str, vs = [.str z] ∧ z ∈ U ∧ RetV (.bl true) H Q
def sp_pins_allowed (K : PySem.W.Frag) : Sp := fun vs H Q _ => ∃ (k : Str) (n : Nat), vs = [.str k, .int (n : Int)] ∧ Allowed k n ∧ RetV (.bl true) H Q
def sp_is_row (K : PySem.W.Frag) : Sp := fun vs H Q _ => ∃ (v : V) (r : Str × Str), vs = [v, .int 2] ∧ RegAt K H v r ∧ r.1 ∈ U ∧ r.2 ∈ U ∧ RetV (.bl true) H Q
def GateOk (g : Gate) : Prop := g.nm ∈ U ∧ (∀ z ∈ g.pins, z ∈ U) ∧ Allowed g.kd g.pins.length
def sp_is_gate (K : PySem.W.Frag) : Sp := fun vs H Q _ => ∃ (v : V) (g : Gate), vs = [v] ∧ GateAt K H v g ∧ GateOk g ∧ RetV (.bl true) H Q
theorem GateOk.few {g : Gate} (h : GateOk g) : g.pins.length ≤ 4 := by
  rcases h.2.2 with ⟨_, e⟩ | ⟨_, e⟩ | ⟨_, _, e⟩ <;> omega
end
section
variable {P : Program} {w : World} {K : PySem.W.Frag} {mg : Str → Option Value} {base : Heap}
theorem ok_is_integer (T : Tx K mg) (F : DefF K mg "is_integer" s_is_integer)  : C8.Cal P w K mg base 1 "is_integer" (sp_is_integer K) [] := by
  refine cal_of F sc_is_integer (fun vs H Q E h => by obtain ⟨_, _, _, rfl, _⟩ := h; rfl) (fun _ _ _ _ _ _ us hl => match us, hl with | [_, _, _], _ => rfl) (fun f cdv A outer s H vs Q E hr h => ?_)
  obtain ⟨i, lo, hi, rfl, k⟩ := h
  have hu := hu_of hr
  refine ⟨_, (pss_cons (ps_if (PW.pt (pw_or (pt_not (pt_val (pe_callB call_isi (by rfl) T.n_isinstance (by decide +kernel) (pa_cons (pv 0) (pa_cons (pe_bltn (v := .ty "int") (by rfl) T.n_int (by decide +kernel) rfl) pa_nil))))) (pw_or1 (pt_val (pe_callB call_isi (by rfl) T.n_isinstance (by decide +kernel) (pa_cons (pv 0) (pa_cons (pe_bltn (v := .ty "bool") (by rfl) T.n_bool (by decide +kernel) rfl) pa_nil)))))))
          (pss_one (ps_ret pe_bl))
          pss_nil)
        (pss_one (ps_ret (pe_and (pe_cmpR op_le (pv 1) (pv 0) (nomark _)) (pe_one (pe_cmpR op_le (pv 0) (pv 2) (nomark _))))))), ?_⟩
  refine q_when (b := false) (et_or (a := false) (et_not (et_isi (q := true) (ev_var rfl) (.base (.int i)) (by decide +kernel))) fun _ => et_isi (q := false) (ev_var rfl) (.base (.int i)) (by decide +kernel)) (fun h => nomatch h) (fun _ H1 e1 => ?_)
  exact s_ret (ev_andV (ev_op (ev_var rfl) (ev_var rfl) rv_I0) fun _ => ev_op (ev_var rfl) (ev_var rfl) rv_I0) fun H2 e2 => k H2 (e1.trans e2)
theorem ok_is_bit (T : Tx K mg) (F : DefF K mg "is_bit" s_is_bit) (g_is_integer : C8.Cal P w K mg base 1 "is_integer" (sp_is_integer K) []) : C8.Cal P w K mg base 2 "is_bit" (sp_is_bit K) [] := by
  refine cal_of F sc_is_bit (fun vs H Q E h => by obtain ⟨_, rfl, _⟩ := h; rfl) (fun _ _ _ _ _ _ us hl => match us, hl with | [_], _ => rfl) (fun f cdv A outer s H vs Q E hr h => ?_)
  obtain ⟨i, rfl, k⟩ := h
  have hu := hu_of hr
  refine ⟨_, (pss_one (ps_ret (C8.pe_c g_is_integer hr (by decide) rfl (pa_cons (pv 0) (pa_cons pe_int (pa_cons pe_int pa_nil)))))), ?_⟩
  exact s_ret (ev_g (eg_call (ea_cons (ev_var rfl) (ea_cons ev_c (ea_cons ev_c ea_nil))) mo_V fun H1 e Q E q => ⟨i, 0, 1, rfl, q⟩)) k
theorem ok_are_bits (T : Tx K mg) (F : DefF K mg "are_bits" s_are_bits) (g_is_bit : C8.Cal P w K mg base 2 "is_bit" (sp_is_bit K) []) : C8.Cal P w K mg base 3 "are_bits" (sp_are_bits K) [] := by
  refine cal_of F sc_are_bits (fun vs H Q E h => by obtain ⟨_, _, _, rfl, _⟩ := h; rfl) (fun _ _ _ _ _ _ us hl => match us, hl with | [_, _], _ => rfl) (fun f cdv A outer s H vs Q E hr h => ?_)
  obtain ⟨a, n, bs, rfl, hx, hz, k⟩ := h
  have hu := hu_of hr
  refine ⟨_, (pss_cons (ps_if (PW.pt (pw_or (pt_not (pt_val (pe_callB call_isi (by rfl) T.n_isinstance (by decide +kernel) (pa_cons (pv 0) (pa_cons (pe_bltn (v := .ty "tuple") (by rfl) T.n_tuple (by decide +kernel) rfl) pa_nil))))) (pw_or1 (pt_cmpR op_ne (pe_callB call_len_seq (by rfl) T.n_len PySem.boot_len (pa_cons (pv 0) pa_nil)) (pv 1) (nomark _)))))
          (pss_one (ps_ret pe_bl))
          pss_nil)
        (pss_one (ps_ret (pe_callB (cr_all rfl) (by rfl) T.n_all (by decide +kernel) (pa_cons (pe_lc (own := [("item", 2)]) (g := gName 2) (tt := tYes) rfl sc_are_bits.nd (pi_tup (pv 0)) (blkOk_by (N := ["value", "count", "item"]) (sc := defScope s_are_bits) (by decide +kernel)) (fun _ _ _ _ _ => (pg_name (i := 2) sc_are_bits.nd rfl (Or.inl rfl))) (fun _ _ _ _ _ => pts_nil) (fun _ _ _ _ _ => (C8.pe_c g_is_bit hr (by decide) rfl (pa_cons (pv 2) pa_nil)))) pa_nil))))), ?_⟩
  refine q_when (b := !decide (bs.length = n)) (et_is (et_or (a := false) (et_not (et_isi (q := true) (ev_var rfl) (ty_tup hx) (by decide +kernel))) fun _ => et_test (ev_op (ev_lenT (ev_var rfl) hx) (ev_var rfl) (rv_ne rfl))) ?_) (fun hb H1 e1 => ?_) (fun hb H1 e1 => ?_)
  · rw [Bool.false_or, List.length_map]
    congr 1
    rw [Bool.eq_iff_iff]
    simp only [decide_eq_true_eq, V.int.injEq]
    omega
  · refine s_ret ev_c fun H2 e2 => ?_
    have := k H2 (e1.trans e2)
    have hb : decide (bs.length = n) = false := by simpa using hb
    rwa [hb, Bool.false_and] at this
  · have hb : decide (bs.length = n) = true := by simpa using hb
    refine s_ret (ev_all (bs := bs.map bitB) (el_mapT (ev_var rfl) (ex_t e1 hx) (by simpa using hz) (by simp) (fun _ => rfl) fun i x y H2 e2 hx hy => ?_)) fun H2 e2 => ?_
    · obtain ⟨b, h1, rfl⟩ := map_at hx
      rw [List.map_map, List.getElem?_map, h1] at hy
      cases hy
      exact ev_g (eg_call (ea_cons (ev_var rfl) ea_nil) mo_V fun H3 e Q E q => ⟨b, rfl, q⟩)
    · have := k H2 (e1.trans e2)
      rw [hb, Bool.true_and] at this
      rw [List.all_map]
      exact this
theorem ok_is_name (T : Tx K mg) (F : DefF K mg "is_name" s_is_name)  : C8.Cal P w K mg base 1 "is_name" (sp_is_name K) [] := by
  refine cal_of F sc_is_name (fun vs H Q E h => by obtain ⟨_, rfl, _⟩ := h; rfl) (fun _ _ _ _ _ _ us hl => match us, hl with | [_], _ => rfl) (fun f cdv A outer s H vs Q E hr h => ?_)
  obtain ⟨z, rfl, hz, k⟩ := h
  have hu := hu_of hr
  refine ⟨_, (pss_cons (ps_if (PW.pt (pw_or (pt_not (pt_val (pe_callB call_isi (by rfl) T.n_isinstance (by decide +kernel) (pa_cons (pv 0) (pa_cons (pe_bltn (v := .ty "str") (by rfl) T.n_str (by decide +kernel) rfl) pa_nil))))) (pw_or (pt_cmpR op_eq (pv 0) pe_str (nomark _)) (pw_or (pt_cmpR op_gt (pe_callB call_len_str (by rfl) T.n_len PySem.boot_len (pa_cons (pv 0) pa_nil)) (C8.pe_gc rfl T.cMOST_NAME) (nomark _)) (pw_or1 (pt_cmpR op_notInS (pe_ix ix_str (pv 0) pe_int (fun _ _ => rfl)) (C8.pe_gc rfl T.cLETTERS) (by rfl)))))))
          (pss_one (ps_ret pe_bl))
          pss_nil)
        (pss_cons (ps_for PassesOwn.never rfl (pi_str (pv 0)) (pg_name (i := 1) sc_is_name.nd rfl (Or.inl rfl))
          (pss_one (ps_if (PW.pt (pw_and (pt_cmpR op_notInS (pv 1) (C8.pe_gc rfl T.cLETTERS) (by rfl)) (pw_and (pt_cmpR op_notInS (pv 1) (C8.pe_gc rfl T.cFIGURES) (by rfl)) (pw_and1 (pt_cmpR op_ne (pv 1) pe_str (nomark _))))))
              (pss_one (ps_ret pe_bl))
              pss_nil)))
        (pss_one (ps_ret pe_bl)))), ?_⟩
  obtain ⟨u1, u2, ⟨c0, u3, u3'⟩, u4⟩ := U_ok z hz
  have u1' : decide (V.str z = V.str "") = false := by
    rw [dec_str]
    simpa using u1
  refine q_when (b := false) (et_or (a := false) (et_not (et_isi (q := true) (ev_var rfl) (.base (.str z)) (by decide +kernel))) fun _ => et_or (a := false) (et_test (ev_is (ev_op (ev_var rfl) ev_c (rv_eq rfl)) (by rw [u1'])))
    fun _ => et_or (a := false) (et_test (ev_is (ev_op (ev_lenStr (ev_var rfl) (by omega)) ev_c rv_I0) (by simp; omega))) fun _ => et_test (ev_is (ev_op (ev_op (ev_var rfl) ev_c (rv_ixS (c := c0) (by omega) (atI_nat (j := 0) u3))) ev_c rv_notInS) (by simp [u3']))) (fun h => nomatch h) (fun _ H1 e1 => ?_)
  refine q_forSt (z := z) (ev_var rfl) (fun i σ' H' => ∃ v, σ' = [some (.str z), v] ∧ Ex H H') (fun H2 e2 => ⟨_, rfl, e1.trans e2⟩) (fun i c σ' H' hc ⟨v, hs, e⟩ => ?_) (fun σ' H' ⟨v, hs, e⟩ => ?_)
  · subst hs
    have hc' : c ∈ z.cps.toList := List.mem_of_getElem? (by simpa using hc)
    refine s_when (b := false) (et_is (et_and (a := !decide (c ∈ zLet.cps.toList)) (et_test (ev_op (ev_var rfl) ev_c rv_notInS)) fun ha => et_and (a := !decide (c ∈ zFig.cps.toList)) (b := !decide (V.str ⟨#[c]⟩ = V.str "_")) (et_test (ev_op (ev_var rfl) ev_c rv_notInS))
      fun hb => et_test (ev_op (ev_var rfl) ev_c (rv_ne rfl))) ?_) (fun h => nomatch h) fun _ H2 e2 => ⟨_, rfl, e.trans e2⟩
    rcases u4 c hc' with q | q <;> rw [q] <;> simp
  · subst hs
    exact s_ret ev_c fun H2 e2 => k H2 (e.trans e2)
theorem ok_pins_allowed (T : Tx K mg) (F : DefF K mg "pins_allowed" s_pins_allowed)  : C8.Cal P w K mg base 1 "pins_allowed" (sp_pins_allowed K) [] := by
  refine cal_of F sc_pins_allowed (fun vs H Q E h => by obtain ⟨_, _, rfl, _⟩ := h; rfl) (fun _ _ _ _ _ _ us hl => match us, hl with | [_, _], _ => rfl) (fun f cdv A outer s H vs Q E hr h => ?_)
  obtain ⟨k, n, rfl, ha, q⟩ := h
  have hu := hu_of hr
  refine ⟨_, (pss_cons (ps_if (pt_cmpR op_in_seq (pv 0) (pe_tup (pa_cons pe_str (pa_cons pe_str pa_nil))) (by rfl))
          (pss_one (ps_ret (pe_cmpR op_eq (pv 1) pe_int (nomark _))))
          pss_nil)
        (pss_cons (ps_if (pt_cmpR op_in_seq (pv 0) (pe_tup (pa_cons pe_str (pa_cons pe_str pa_nil))) (by rfl))
          (pss_one (ps_ret (pe_cmpR op_eq (pv 1) pe_int (nomark _))))
          pss_nil)
        (pss_one (ps_ret (pe_and (pe_cmpR op_in_seq (pv 0) (C8.pe_gc rfl T.cKINDS) (by rfl)) (pe_and (pe_cmpR op_le pe_int (pv 1) (nomark _)) (pe_one (pe_cmpR op_le (pv 1) (C8.pe_gc rfl T.cMOST_PINS) (nomark _))))))))), ?_⟩
  rcases ha with ⟨hk, rfl⟩ | ⟨hk, rfl⟩ | ⟨hk, h1, h4⟩
  · exact q_when (b := true) (et_inU (ev_var rfl) (ea_cons ev_c (ea_cons ev_c ea_nil)) (by decide) rfl rfl (k0_in k hk)) (fun _ H1 e1 => s_ret (ev_op (ev_var rfl) ev_c (rv_eq rfl)) fun H2 e2 => q H2 (e1.trans e2)) (fun h => nomatch h)
  · refine q_when (b := false) (et_inU (ev_var rfl) (ea_cons ev_c (ea_cons ev_c ea_nil)) (by decide) rfl rfl (k1_in k hk).1) (fun h => nomatch h) (fun _ H1 e1 => ?_)
    exact q_when (b := true) (et_inU (ev_var rfl) (ea_cons ev_c (ea_cons ev_c ea_nil)) (by decide) rfl rfl (k1_in k hk).2) (fun _ H2 e2 => s_ret (ev_op (ev_var rfl) ev_c (rv_eq rfl)) fun H3 e3 => q H3 ((e1.trans e2).trans e3)) (fun h => nomatch h)
  · refine q_when (b := false) (et_inU (ev_var rfl) (ea_cons ev_c (ea_cons ev_c ea_nil)) (by decide) rfl rfl (k4_in k hk).1) (fun h => nomatch h) (fun _ H1 e1 => ?_)
    refine q_when (b := false) (et_inU (ev_var rfl) (ea_cons ev_c (ea_cons ev_c ea_nil)) (by decide) rfl rfl (k4_in k hk).2.1) (fun h => nomatch h) (fun _ H2 e2 => ?_)
    refine s_ret (ev_is (ev_andV (a := true) (ev_is (ev_op (ev_var rfl) ev_c (rv_isT (T.tKINDS H2) rfl rfl)) (by rw [(k4_in k hk).2.2])) fun _ => ev_andV (ev_op ev_c (ev_var rfl) rv_I0) fun _ => ev_op (ev_var rfl) ev_c rv_I0) (?_ : _ = V.bl true)) fun H3 e3 => q H3 ((e1.trans e2).trans e3)
    have a1 : (1 : Int) ≤ (n : Int) := by omega
    have a2 : (n : Int) ≤ 4 := by omega
    simp [a1, a2]
/-- all([is_name(x) for x in ..]) over a tuple of names -/
theorem ev_names {σ : L2.St} {H : Hp} {E : XK} {tl : TE} {a : Addr} {xs : List Str} {j : Nat} (h : Ev tl σ H (.ref a)) (hx : SqT K H a (xs.map V.str)) (hz : xs.length ≤ 40000) (hU : ∀ z ∈ xs, z ∈ U) (hw : ∀ x, wipe ((wipe σ [j]).set j (some x)) [j] = wipe σ [j])
    (hj : ∀ x : V, ((wipe σ [j]).set j (some x))[j]? = some (some x)) :
    Ev (tCB (rAll K) (tCons (tLc (iTup K tl) (gName j) tYes (tCall (sp_is_name K) [] E (tCons (tVar j) tNil)) [j]) tNil)) σ H (.bl true) := by
  refine ev_is (ev_all (bs := xs.map fun _ => true) (el_mapT h hx (by simpa using hz) (by simp) hw fun i x y H2 e2 hx hy => ?_)) ?_
  · obtain ⟨z, h1, rfl⟩ := map_at hx
    rw [List.map_map, List.getElem?_map, h1] at hy
    cases hy
    exact ev_g (eg_call (ea_cons (ev_var (hj _)) ea_nil) mo_V fun H3 e Q E q => ⟨z, rfl, hU z (List.mem_of_getElem? h1), q⟩)
  · simp
theorem ok_is_row (T : Tx K mg) (F : DefF K mg "is_row" s_is_row) (g_is_name : C8.Cal P w K mg base 1 "is_name" (sp_is_name K) []) : C8.Cal P w K mg base 2 "is_row" (sp_is_row K) [] := by
  refine cal_of F sc_is_row (fun vs H Q E h => by obtain ⟨_, _, rfl, _⟩ := h; rfl) (fun _ _ _ _ _ _ us hl => match us, hl with | [_, _], _ => rfl) (fun f cdv A outer s H vs Q E hr h => ?_)
  obtain ⟨v, r, rfl, ⟨a, rfl, hx⟩, u1, u2, k⟩ := h
  have hu := hu_of hr
  refine ⟨_, (pss_one (ps_ret (pe_and (pe_callB call_isi (by rfl) T.n_isinstance (by decide +kernel) (pa_cons (pv 0) (pa_cons (pe_bltn (v := .ty "tuple") (by rfl) T.n_tuple (by decide +kernel) rfl) pa_nil))) (pe_and (pe_cmpR op_eq (pe_callB call_len_seq (by rfl) T.n_len PySem.boot_len (pa_cons (pv 0) pa_nil)) (pv 1) (nomark _)) (pe_one (pe_callB (cr_all rfl) (by rfl) T.n_all (by decide +kernel) (pa_cons (pe_lc (own := [("item", 2)]) (g := gName 2) (tt := tYes) rfl sc_is_row.nd (pi_tup (pv 0)) (blkOk_by (N := ["value", "size", "item"]) (sc := defScope s_is_row) (by decide +kernel)) (fun _ _ _ _ _ => (pg_name (i := 2) sc_is_row.nd rfl (Or.inl rfl))) (fun _ _ _ _ _ => pts_nil) (fun _ _ _ _ _ => (C8.pe_c g_is_name hr (by decide) rfl (pa_cons (pv 2) pa_nil)))) pa_nil))))))), ?_⟩
  refine s_ret (ev_andV (a := true) (b := true) (ev_isi (ev_var rfl) (ty_tup hx) (by decide +kernel)) fun _ => ev_andV (a := true) (b := true) (ev_op (ev_lenT (ev_var rfl) hx) (ev_var rfl) (rv_eq rfl)) fun _ => ?_) k
  exact ev_names (xs := [r.1, r.2]) (ev_var rfl) hx (by simp) (by simp [u1, u2]) (fun _ => rfl) (fun _ => rfl)
theorem ok_is_gate (T : Tx K mg) (F : DefF K mg "is_gate" s_is_gate) (g_is_name : C8.Cal P w K mg base 1 "is_name" (sp_is_name K) []) (g_pins_allowed : C8.Cal P w K mg base 1 "pins_allowed" (sp_pins_allowed K) []) : C8.Cal P w K mg base 2 "is_gate" (sp_is_gate K) [] := by
  refine cal_of F sc_is_gate (fun vs H Q E h => by obtain ⟨_, _, rfl, _⟩ := h; rfl) (fun _ _ _ _ _ _ us hl => match us, hl with | [_], _ => rfl) (fun f cdv A outer s H vs Q E hr h => ?_)
  obtain ⟨v, g, rfl, ⟨a, q, rfl, hx, hq⟩, ok, k⟩ := h
  have hu := hu_of hr
  refine ⟨_, (pss_cons (ps_if (PW.pt (pw_or (pt_not (pt_val (pe_callB call_isi (by rfl) T.n_isinstance (by decide +kernel) (pa_cons (pv 0) (pa_cons (pe_bltn (v := .ty "tuple") (by rfl) T.n_tuple (by decide +kernel) rfl) pa_nil))))) (pw_or (pt_cmpR op_ne (pe_callB call_len_seq (by rfl) T.n_len PySem.boot_len (pa_cons (pv 0) pa_nil)) pe_int (nomark _)) (pw_or (pt_not (pt_val (C8.pe_c g_is_name hr (by decide) rfl (pa_cons (pe_ix ix_tup (pv 0) pe_int (fun _ _ => rfl)) pa_nil)))) (pw_or1 (pt_not (pt_val (pe_callB call_isi (by rfl) T.n_isinstance (by decide +kernel) (pa_cons (pe_ix ix_tup (pv 0) pe_int (fun _ _ => rfl)) (pa_cons (pe_bltn (v := .ty "str") (by rfl) T.n_str (by decide +kernel) rfl) pa_nil))))))))))
          (pss_one (ps_ret pe_bl))
          pss_nil)
        (pss_cons (ps_if (PW.pt (pw_or (pt_not (pt_val (pe_callB call_isi (by rfl) T.n_isinstance (by decide +kernel) (pa_cons (pe_ix ix_tup (pv 0) pe_int (fun _ _ => rfl)) (pa_cons (pe_bltn (v := .ty "tuple") (by rfl) T.n_tuple (by decide +kernel) rfl) pa_nil))))) (pw_or1 (pt_not (pt_val (pe_callB (cr_all rfl) (by rfl) T.n_all (by decide +kernel) (pa_cons (pe_lc (own := [("pin", 1)]) (g := gName 1) (tt := tYes) rfl sc_is_gate.nd (pi_tup (pe_ix ix_tup (pv 0) pe_int (fun _ _ => rfl))) (blkOk_by (N := ["value", "pin"]) (sc := defScope s_is_gate) (by decide +kernel)) (fun _ _ _ _ _ => (pg_name (i := 1) sc_is_gate.nd rfl (Or.inl rfl))) (fun _ _ _ _ _ => pts_nil) (fun _ _ _ _ _ => (C8.pe_c g_is_name hr (by decide) rfl (pa_cons (pv 1) pa_nil)))) pa_nil)))))))
          (pss_one (ps_ret pe_bl))
          pss_nil)
        (pss_one (ps_ret (C8.pe_c g_pins_allowed hr (by decide) rfl (pa_cons (pe_ix ix_tup (pv 0) pe_int (fun _ _ => rfl)) (pa_cons (pe_callB call_len_seq (by rfl) T.n_len PySem.boot_len (pa_cons (pe_ix ix_tup (pv 0) pe_int (fun _ _ => rfl)) pa_nil)) pa_nil))))))), ?_⟩
  have few := ok.few
  refine q_when (b := false) (et_or (a := false) (et_not (et_isi (q := true) (ev_var rfl) (ty_tup hx) (by decide +kernel))) fun _ => et_or (a := false) (et_test (ev_op (ev_lenT (ev_var rfl) hx) ev_c (rv_ne rfl))) fun _ => et_or (a := false)
    (et_not (a := true) (et_B (ev_g (eg_call (ea_cons (ev_op (ev_var rfl) ev_c (rv_ixT hx rfl)) ea_nil) mo_V fun H1 e Q E q => ⟨g.nm, rfl, ok.1, q⟩)))) fun _ => et_not (a := true) (et_isi (ev_op (ev_var rfl) ev_c (rv_ixT hx rfl)) (.base (.str _)) (by decide +kernel))) (fun h => nomatch h) (fun _ H1 e1 => ?_)
  have hx1 := ex_t e1 hx
  have hq1 := ex_t e1 hq
  refine q_when (b := false) (et_or (a := false) (et_not (a := true) (et_isi (ev_op (ev_var rfl) ev_c (rv_ixT hx1 rfl)) (ty_tup hq1) (by decide +kernel))) fun _ => et_not (a := true) (et_B (ev_names (xs := g.pins) (ev_op (ev_var rfl) ev_c (rv_ixT hx1 rfl)) hq1 (by omega) ok.2.1 (fun _ => rfl) (fun _ => rfl)))) (fun h => nomatch h) (fun _ H2 e2 => ?_)
  have hx2 := ex_t e2 hx1
  have hq2 := ex_t e2 hq1
  refine s_ret (ev_g (eg_call (vs := [.str g.kd, .int ((g.pins.length : Nat) : Int)]) (ea_cons (ev_op (ev_var rfl) ev_c (rv_ixT hx2 rfl)) (ea_cons (ev_is (ev_lenT (ev_op (ev_var rfl) ev_c (rv_ixT hx2 rfl)) hq2) (by rw [List.length_map])) ea_nil)) mo_V fun H3 e Q E q => ⟨g.kd, g.pins.length, rfl, ok.2.2, q⟩)) fun H3 e3 => k H3 ((e1.trans e2).trans e3)
end
end Pw


namespace Pw
open PySem PySem.Spec PyProof.Rows L2 Evl
/-! ### a circuit -/
abbrev GV := V × Gate
structure Ck where
  ins : List Str
  regs : List (V × Str × Str)
  gts : List GV
  outs : List Str
def Ck.srcs (c : Ck) : List Str := c.ins ++ c.regs.map (·.2.1)
def Ck.lines (c : Ck) : List Str := c.srcs ++ c.gts.map (·.2.nm)
def Ck.takens (c : Ck) : List Str := c.regs.map (·.2.2)
def Ck.sinks (c : Ck) : List Str := c.outs ++ c.takens
def Ck.uses (c : Ck) : List Str := c.gts.flatMap (·.2.pins) ++ c.takens ++ c.outs
def meths : List Str := ["lines", "uses", "sources", "sinks", "sorted_gates", "check_forms", "check_names", "above"]
def NoM (fs : List (Str × V)) : Prop := ∀ m ∈ meths, fs.lookup m = none
structure Few (c : Ck) : Prop where
  ins : c.ins.length ≤ 100
  regs : c.regs.length ≤ 100
  gts : c.gts.length ≤ 100
  outs : c.outs.length ≤ 100
  pins : ∀ p ∈ c.gts, p.2.pins.length ≤ 4
/-- the parts of a circuit, as the instance at a holds them -/
structure PartsOf (K : PySem.W.Frag) (H : Hp) (a : Addr) (c : Ck) (dx : Addr) (fs : List (Str × V)) (ti tr tg to : Addr) : Prop where
  ob : H a = some (.ins (He.ga K "Circuit") dx fs)
  li : fs.lookup ("inputs" : Str) = some (V.ref ti)
  lr : fs.lookup ("registers" : Str) = some (V.ref tr)
  lg : fs.lookup ("gates" : Str) = some (V.ref tg)
  lo : fs.lookup ("outputs" : Str) = some (V.ref to)
  nom : NoM fs
  si : SqT K H ti (c.ins.map V.str)
  sr : SqT K H tr (c.regs.map (·.1))
  sg : SqT K H tg (c.gts.map (·.1))
  so : SqT K H to (c.outs.map V.str)
  dr : ∀ p ∈ c.regs, RegAt K H p.1 p.2
  dg : ∀ p ∈ c.gts, GateAt K H p.1 p.2
  few : Few c
def PartsAt (K : PySem.W.Frag) (H : Hp) (a : Addr) (c : Ck) : Prop := ∃ dx fs ti tr tg to, PartsOf K H a c dx fs ti tr tg to
/-- the gates in their order -/
def OrdAt (K : PySem.W.Frag) (H : Hp) (a : Addr) (od : List GV) : Prop := ∃ dx fs lo, H a = some (.ins (He.ga K "Circuit") dx fs) ∧ fs.lookup ("order" : Str) = some (V.ref lo) ∧ NoM fs ∧ SqL K H lo (od.map (·.1)) ∧ (∀ p ∈ od, GateAt K H p.1 p.2) ∧ od.length ≤ 100 ∧ ∀ p ∈ od, p.2.pins.length ≤ 4
section
variable {K : PySem.W.Frag} {H H' : Hp} {a : Addr} {c : Ck} {od : List GV} {dx ti tr tg to : Addr} {fs : List (Str × V)}
theorem PartsOf.mono (e : Ex H H') (h : PartsOf K H a c dx fs ti tr tg to) : PartsOf K H' a c dx fs ti tr tg to :=
  ⟨e _ _ h.ob, h.li, h.lr, h.lg, h.lo, h.nom, ex_t e h.si, ex_t e h.sr, ex_t e h.sg, ex_t e h.so, fun p hp => (h.dr p hp).mono e, fun p hp => (h.dg p hp).mono e, h.few⟩
theorem PartsAt.mono (e : Ex H H') (h : PartsAt K H a c) : PartsAt K H' a c := by
  obtain ⟨dx, fs, ti, tr, tg, to, h⟩ := h
  exact ⟨dx, fs, ti, tr, tg, to, h.mono e⟩
theorem OrdAt.mono (e : Ex H H') (h : OrdAt K H a od) : OrdAt K H' a od := by
  obtain ⟨dx, fs, lo, h1, h2, h3, h4, h5, h6⟩ := h
  exact ⟨dx, fs, lo, e _ _ h1, h2, h3, ex_l e h4, fun p hp => (h5 p hp).mono e, h6⟩
theorem NoM.at (h : NoM fs) (m : Str) (hm : m ∈ meths := by decide) : fs.lookup m = none := h m hm
end
/-! ### promises -/
def sp_Circuit_sources (K : PySem.W.Frag) : Sp := fun vs H Q _ => ∃ (a : Addr) (c : Ck), vs = [.ref a] ∧ PartsAt K H a c ∧ RetL (c.srcs.map V.str) H Q
def sp_Circuit_lines (K : PySem.W.Frag) : Sp := fun vs H Q _ => ∃ (a : Addr) (c : Ck), vs = [.ref a] ∧ PartsAt K H a c ∧ RetL (c.lines.map V.str) H Q
def sp_Circuit_uses (K : PySem.W.Frag) : Sp := fun vs H Q _ => ∃ (a : Addr) (c : Ck), vs = [.ref a] ∧ PartsAt K H a c ∧ RetL (c.uses.map V.str) H Q
def sp_Circuit_sinks (K : PySem.W.Frag) : Sp := fun vs H Q _ => ∃ (a : Addr) (c : Ck), vs = [.ref a] ∧ PartsAt K H a c ∧ RetL (c.sinks.map V.str) H Q
structure FormsOk (c : Ck) : Prop where
  io : ∀ z ∈ c.ins ++ c.outs, z ∈ U
  rg : ∀ p ∈ c.regs, p.2.1 ∈ U ∧ p.2.2 ∈ U
  gt : ∀ p ∈ c.gts, GateOk p.2
def sp_Circuit_check_forms (K : PySem.W.Frag) : Sp := fun vs H Q _ => ∃ (a : Addr) (c : Ck), vs = [.ref a] ∧ PartsAt K H a c ∧ FormsOk c ∧ RetV .non H Q
structure NamesOk (c : Ck) : Prop where
  nd : c.lines.Nodup
  us : ∀ z ∈ c.uses, z ∈ c.lines
  ln : c.lines.length ≤ 60
  sn : c.srcs.length ≤ 40
def sp_Circuit_check_names (K : PySem.W.Frag) : Sp := fun vs H Q _ => ∃ (a : Addr) (c : Ck), vs = [.ref a] ∧ PartsAt K H a c ∧ NamesOk c ∧ RetV .non H Q
/-- the lines that lead to one, down the reversed order -/
def abv : List GV → List Str → List Str
  | [], ks => ks
  | g :: r, ks => if g.2.nm ∈ ks then abv r (g.2.pins.foldl ins ks) else abv r ks
def sp_Circuit_above (K : PySem.W.Frag) : Sp := fun vs H Q _ => ∃ (a : Addr) (z : Str) (od : List GV), vs = [.ref a, .str z] ∧ OrdAt K H a od ∧ RetF (fun p H2 => H2 p = some (.dK ((abv od.reverse [z]).map kvT))) H Q
section
variable {P : Program} {w : World} {K : PySem.W.Frag} {mg : Str → Option Value} {base : Heap}
theorem ga_eq {H : Hp} {g : GV} (h : GateAt K H g.1 g.2) : ∃ a q, g.1 = .ref a ∧ SqT K H a [.str g.2.nm, .str g.2.kd, .ref q] ∧ SqT K H q (g.2.pins.map V.str) := h
theorem ok_Circuit_sources (T : Tx K mg) (F : DefM K (He.ga K "Circuit") "sources" "Circuit.sources" s_Circuit_sources)  : C8.Met P w K mg base 1 (He.ga K "Circuit") "sources" (sp_Circuit_sources K) [] := by
  refine met_of T.clCircuit F sc_Circuit_sources (fun vs H Q E h => by obtain ⟨_, _, rfl, _⟩ := h; rfl) (fun _ _ _ _ _ _ us hl => match us, hl with | [_], _ => rfl) (fun f cdv A outer s H vs Q E hr h => ?_)
  obtain ⟨a, c, rfl, ⟨dx, fs, ti, tr, tg, to, h⟩, k⟩ := h
  have hu := hu_of hr
  refine ⟨_, (pss_one (ps_ret (pe_op op_cat (pe_callTy call_list_of (by rfl) T.n_list (by decide +kernel) (pa_cons (pe_fld (pv 0) rfl) pa_nil)) (pe_lc (own := [("cell", 1)]) (g := gName 1) (tt := tYes) rfl sc_Circuit_sources.nd (pi_tup (pe_fld (pv 0) rfl)) (blkOk_by (N := ["self", "cell"]) (sc := defScope s_Circuit_sources) (by decide +kernel)) (fun _ _ _ _ _ => (pg_name (i := 1) sc_Circuit_sources.nd rfl (Or.inl rfl))) (fun _ _ _ _ _ => pts_nil) (fun _ _ _ _ _ => (pe_ix (r := rIxT K) ix_tup (pv 1) pe_int (fun _ _ => rfl))))))), ?_⟩
  have f1 := h.few.ins
  have f2 := h.few.regs
  refine s_retG (eg_l (el_cat (xs := c.ins.map V.str) (ys := (c.regs.map (·.2.1)).map V.str) (el_listT (ev_fld (ev_var rfl) h.ob T.clCircuit T.na_inputs h.li) h.si)
    (el_mapT (ev_fld (ev_var rfl) h.ob T.clCircuit T.na_registers h.lr) h.sr (by simp; omega) (by simp) (fun _ => rfl) fun i x y H1 e hx hy => ?_) (by simp; omega))) ?_
  · obtain ⟨r, h1, rfl⟩ := map_at hx
    rw [List.map_map, List.getElem?_map, h1] at hy
    cases hy
    obtain ⟨b, h2, h3⟩ := h.dr r (List.mem_of_getElem? h1)
    exact ev_op (ev_var (by rw [h2]; rfl)) ev_c (rv_ixT (ex_t e h3) rfl)
  · have e : c.srcs.map V.str = c.ins.map V.str ++ (c.regs.map (·.2.1)).map V.str := by rw [Ck.srcs, List.map_append]
    rw [e] at k
    exact k
theorem ok_Circuit_sinks (T : Tx K mg) (F : DefM K (He.ga K "Circuit") "sinks" "Circuit.sinks" s_Circuit_sinks)  : C8.Met P w K mg base 1 (He.ga K "Circuit") "sinks" (sp_Circuit_sinks K) [] := by
  refine met_of T.clCircuit F sc_Circuit_sinks (fun vs H Q E h => by obtain ⟨_, _, rfl, _⟩ := h; rfl) (fun _ _ _ _ _ _ us hl => match us, hl with | [_], _ => rfl) (fun f cdv A outer s H vs Q E hr h => ?_)
  obtain ⟨a, c, rfl, ⟨dx, fs, ti, tr, tg, to, h⟩, k⟩ := h
  have hu := hu_of hr
  refine ⟨_, (pss_one (ps_ret (pe_op op_cat (pe_callTy call_list_of (by rfl) T.n_list (by decide +kernel) (pa_cons (pe_fld (pv 0) rfl) pa_nil)) (pe_lc (own := [("cell", 1)]) (g := gName 1) (tt := tYes) rfl sc_Circuit_sinks.nd (pi_tup (pe_fld (pv 0) rfl)) (blkOk_by (N := ["self", "cell"]) (sc := defScope s_Circuit_sinks) (by decide +kernel)) (fun _ _ _ _ _ => (pg_name (i := 1) sc_Circuit_sinks.nd rfl (Or.inl rfl))) (fun _ _ _ _ _ => pts_nil) (fun _ _ _ _ _ => (pe_ix (r := rIxT K) ix_tup (pv 1) pe_int (fun _ _ => rfl))))))), ?_⟩
  have f1 := h.few.outs
  have f2 := h.few.regs
  refine s_retG (eg_l (el_cat (xs := c.outs.map V.str) (ys := (c.regs.map (·.2.2)).map V.str) (el_listT (ev_fld (ev_var rfl) h.ob T.clCircuit T.na_outputs h.lo) h.so)
    (el_mapT (ev_fld (ev_var rfl) h.ob T.clCircuit T.na_registers h.lr) h.sr (by simp; omega) (by simp) (fun _ => rfl) fun i x y H1 e hx hy => ?_) (by simp; omega))) ?_
  · obtain ⟨r, h1, rfl⟩ := map_at hx
    rw [List.map_map, List.getElem?_map, h1] at hy
    cases hy
    obtain ⟨b, h2, h3⟩ := h.dr r (List.mem_of_getElem? h1)
    exact ev_op (ev_var (by rw [h2]; rfl)) ev_c (rv_ixT (ex_t e h3) rfl)
  · have e : c.sinks.map V.str = c.outs.map V.str ++ (c.regs.map (·.2.2)).map V.str := by rw [Ck.sinks, Ck.takens, List.map_append]
    rw [e] at k
    exact k
theorem eg_sources {σ : L2.St} {H : Hp} {E : XK} {ta : TE} {a : Addr} {c : Ck} (h : Ev ta σ H (.ref a)) (hp : PartsAt K H a c) : EvL (tMeth (He.ga K "Circuit") "sources" (sp_Circuit_sources K) [] E ta tNil) σ H (c.srcs.map V.str) := by
  obtain ⟨dx, fs, ti, tr, tg, to, h1⟩ := id hp
  exact eg_meth0 h h1.ob (h1.nom.at "sources") mo_L fun H1 e Q E q => ⟨a, c, rfl, hp.mono e, q⟩
theorem eg_lines {σ : L2.St} {H : Hp} {E : XK} {ta : TE} {a : Addr} {c : Ck} (h : Ev ta σ H (.ref a)) (hp : PartsAt K H a c) : EvL (tMeth (He.ga K "Circuit") "lines" (sp_Circuit_lines K) [] E ta tNil) σ H (c.lines.map V.str) := by
  obtain ⟨dx, fs, ti, tr, tg, to, h1⟩ := id hp
  exact eg_meth0 h h1.ob (h1.nom.at "lines") mo_L fun H1 e Q E q => ⟨a, c, rfl, hp.mono e, q⟩
theorem eg_uses {σ : L2.St} {H : Hp} {E : XK} {ta : TE} {a : Addr} {c : Ck} (h : Ev ta σ H (.ref a)) (hp : PartsAt K H a c) : EvL (tMeth (He.ga K "Circuit") "uses" (sp_Circuit_uses K) [] E ta tNil) σ H (c.uses.map V.str) := by
  obtain ⟨dx, fs, ti, tr, tg, to, h1⟩ := id hp
  exact eg_meth0 h h1.ob (h1.nom.at "uses") mo_L fun H1 e Q E q => ⟨a, c, rfl, hp.mono e, q⟩
theorem eg_sinks {σ : L2.St} {H : Hp} {E : XK} {ta : TE} {a : Addr} {c : Ck} (h : Ev ta σ H (.ref a)) (hp : PartsAt K H a c) : EvL (tMeth (He.ga K "Circuit") "sinks" (sp_Circuit_sinks K) [] E ta tNil) σ H (c.sinks.map V.str) := by
  obtain ⟨dx, fs, ti, tr, tg, to, h1⟩ := id hp
  exact eg_meth0 h h1.ob (h1.nom.at "sinks") mo_L fun H1 e Q E q => ⟨a, c, rfl, hp.mono e, q⟩
theorem eg_above {σ : L2.St} {H : Hp} {E : XK} {ta tx : TE} {a : Addr} {od : List GV} {z : Str} (h : Ev ta σ H (.ref a)) (hx : Ev tx σ H (.str z)) (hp : OrdAt K H a od) :
    EvG (tMeth (He.ga K "Circuit") "above" (sp_Circuit_above K) [] E ta (tCons tx tNil)) σ H (RetF (fun p H2 => H2 p = some (.dK ((abv od.reverse [z]).map kvT)))) := by
  obtain ⟨dx, fs, lo, h1, h2, h3, h4⟩ := id hp
  exact eg_meth h h1 (h3.at "above") (ea_cons hx ea_nil) mo_F fun H1 e Q E q => ⟨a, z, od, rfl, hp.mono e, q⟩
theorem ok_Circuit_lines (T : Tx K mg) (F : DefM K (He.ga K "Circuit") "lines" "Circuit.lines" s_Circuit_lines) (g_Circuit_sources : C8.Met P w K mg base 1 (He.ga K "Circuit") "sources" (sp_Circuit_sources K) []) : C8.Met P w K mg base 2 (He.ga K "Circuit") "lines" (sp_Circuit_lines K) [] := by
  refine met_of T.clCircuit F sc_Circuit_lines (fun vs H Q E h => by obtain ⟨_, _, rfl, _⟩ := h; rfl) (fun _ _ _ _ _ _ us hl => match us, hl with | [_], _ => rfl) (fun f cdv A outer s H vs Q E hr h => ?_)
  obtain ⟨a, c, rfl, hp, k⟩ := h
  have hu := hu_of hr
  refine ⟨_, (pss_one (ps_ret (pe_op op_cat (C8.pe_mt0 g_Circuit_sources hr (by decide) (pv 0)) (pe_lc (own := [("gate", 1)]) (g := gName 1) (tt := tYes) rfl sc_Circuit_lines.nd (pi_tup (pe_fld (pv 0) rfl)) (blkOk_by (N := ["self", "gate"]) (sc := defScope s_Circuit_lines) (by decide +kernel)) (fun _ _ _ _ _ => (pg_name (i := 1) sc_Circuit_lines.nd rfl (Or.inl rfl))) (fun _ _ _ _ _ => pts_nil) (fun _ _ _ _ _ => (pe_ix (r := rIxT K) ix_tup (pv 1) pe_int (fun _ _ => rfl))))))), ?_⟩
  obtain ⟨dx, fs, ti, tr, tg, to, h⟩ := id hp
  have f1 := h.few.ins
  have f2 := h.few.regs
  have f3 := h.few.gts
  refine s_retG (eg_l (el_cat (xs := c.srcs.map V.str) (ys := (c.gts.map (·.2.nm)).map V.str) (eg_sources (ev_var rfl) hp)
    (el_mapT (ev_fld (ev_var rfl) h.ob T.clCircuit T.na_gates h.lg) h.sg (by simp; omega) (by simp) (fun _ => rfl) fun i x y H1 e hx hy => ?_) (by simp [Ck.srcs]; omega))) ?_
  · obtain ⟨g, h1, rfl⟩ := map_at hx
    rw [List.map_map, List.getElem?_map, h1] at hy
    cases hy
    obtain ⟨b, q, h2, h3, _⟩ := h.dg g (List.mem_of_getElem? h1)
    exact ev_op (ev_var (by rw [h2]; rfl)) ev_c (rv_ixT (ex_t e h3) rfl)
  · have e : c.lines.map V.str = c.srcs.map V.str ++ (c.gts.map (·.2.nm)).map V.str := by rw [Ck.lines, List.map_append]
    rw [e] at k
    exact k
theorem ok_Circuit_check_forms (T : Tx K mg) (F : DefM K (He.ga K "Circuit") "check_forms" "Circuit.check_forms" s_Circuit_check_forms) (g_is_gate : C8.Cal P w K mg base 2 "is_gate" (sp_is_gate K) []) (g_is_name : C8.Cal P w K mg base 1 "is_name" (sp_is_name K) []) (g_is_row : C8.Cal P w K mg base 2 "is_row" (sp_is_row K) []) : C8.Met P w K mg base 3 (He.ga K "Circuit") "check_forms" (sp_Circuit_check_forms K) [] := by
  refine met_of T.clCircuit F sc_Circuit_check_forms (fun vs H Q E h => by obtain ⟨_, _, rfl, _⟩ := h; rfl) (fun _ _ _ _ _ _ us hl => match us, hl with | [_], _ => rfl) (fun f cdv A outer s H vs Q E hr h => ?_)
  obtain ⟨a, c, rfl, ⟨dx, fs, ti, tr, tg, to, h⟩, ok, k⟩ := h
  have hu := hu_of hr
  refine ⟨_, (pss_cons (ps_for PassesOwn.never rfl (pi_tup (pe_op op_catA (pe_fld (pv 0) rfl) (pe_fld (pv 0) rfl))) (pg_name (i := 1) sc_Circuit_check_forms.nd rfl (Or.inl rfl))
          (pss_one (ps_if (pt_not (pt_val (C8.pe_c g_is_name hr (by decide) rfl (pa_cons (pv 1) pa_nil))))
              (pss_one ps_never)
              pss_nil)))
        (pss_cons (ps_for PassesOwn.never rfl (pi_tup (pe_fld (pv 0) rfl)) (pg_name (i := 2) sc_Circuit_check_forms.nd rfl (Or.inl rfl))
          (pss_one (ps_if (pt_not (pt_val (C8.pe_c g_is_row hr (by decide) rfl (pa_cons (pv 2) (pa_cons pe_int pa_nil)))))
              (pss_one ps_never)
              pss_nil)))
        (pss_one (ps_for PassesOwn.never rfl (pi_tup (pe_fld (pv 0) rfl)) (pg_name (i := 3) sc_Circuit_check_forms.nd rfl (Or.inl rfl))
          (pss_one (ps_if (pt_not (pt_val (C8.pe_c g_is_gate hr (by decide) rfl (pa_cons (pv 3) pa_nil))))
              (pss_one ps_never)
              pss_nil)))))), ?_⟩
  have f1 := h.few.ins
  have f2 := h.few.outs
  refine q_forTP_ro (xs := c.ins.map V.str ++ c.outs.map V.str) (fun _ σ' => ∃ v, σ' = [some (.ref a), v, none, none]) (eg_catT (ev_fld (ev_var rfl) h.ob T.clCircuit T.na_inputs h.li) (ev_fld (ev_var rfl) h.ob T.clCircuit T.na_outputs h.lo) h.si h.so (by simp; omega)) ⟨_, rfl⟩ (fun i x σ' H' N hi hs e kN => ?_) (fun σ' H1 hs e1 => ?_)
  · obtain ⟨v, rfl⟩ := hs
    rw [← List.map_append] at hi
    obtain ⟨z, hz, rfl⟩ := map_at hi
    exact s_when (b := false) (et_not (a := true) (et_B (ev_g (eg_call (ea_cons (ev_var rfl) ea_nil) mo_V fun H1 e Q E q => ⟨z, rfl, ok.io z (List.mem_of_getElem? hz), q⟩)))) (fun q => nomatch q) fun _ H1 e1 => kN _ _ ⟨_, rfl⟩ e1
  obtain ⟨v, rfl⟩ := hs
  have h1 := h.mono e1
  refine q_forT_ro (fun _ σ' => ∃ v w, σ' = [some (.ref a), v, w, none]) (ev_fld (ev_var rfl) h1.ob T.clCircuit T.na_registers h1.lr) h1.sr ⟨_, _, rfl⟩ (fun i x σ' H' N hi hs e kN => ?_) (fun σ' H2 hs e2 => ?_)
  · obtain ⟨v, w, rfl⟩ := hs
    obtain ⟨r, hr1, rfl⟩ := map_at hi
    have hm := List.mem_of_getElem? hr1
    exact s_when (b := false) (et_not (a := true) (et_B (ev_g (eg_call (ea_cons (ev_var rfl) (ea_cons ev_c ea_nil)) mo_V fun H2 e2 Q E q => ⟨r.1, r.2, rfl, (h1.dr r hm).mono (e.trans e2), (ok.rg r hm).1, (ok.rg r hm).2, q⟩)))) (fun q => nomatch q) fun _ H1 e1 => kN _ _ ⟨_, _, rfl⟩ e1
  obtain ⟨v, w, rfl⟩ := hs
  have h2 := h1.mono e2
  refine s_forT_ro (fun _ σ' => ∃ v w u, σ' = [some (.ref a), v, w, u]) (ev_fld (ev_var rfl) h2.ob T.clCircuit T.na_gates h2.lg) h2.sg ⟨_, _, _, rfl⟩ (fun i x σ' H' N hi hs e kN => ?_) (fun σ' H3 hs e3 => ?_)
  · obtain ⟨v, w, u, rfl⟩ := hs
    obtain ⟨g, hg1, rfl⟩ := map_at hi
    have hm := List.mem_of_getElem? hg1
    exact s_when (b := false) (et_not (a := true) (et_B (ev_g (eg_call (ea_cons (ev_var rfl) ea_nil) mo_V fun H2 e2 Q E q => ⟨g.1, g.2, rfl, (h2.dg g hm).mono (e.trans e2), ok.gt g hm, q⟩)))) (fun q => nomatch q) fun _ H1 e1 => kN _ _ ⟨_, _, _, rfl⟩ e1
  · exact k H3 ((e1.trans e2).trans e3)
end
end Pw


namespace Pw
open PySem PySem.Spec PyProof.Rows L2 Evl
theorem flat_le {α : Type} {n : Nat} : ∀ {yss : List (List α)}, (∀ y ∈ yss, y.length ≤ n) → yss.flatten.length ≤ n * yss.length
  | [], _ => by simp
  | y :: yss, h => by
    have h1 := h y List.mem_cons_self
    have h2 := flat_le (yss := yss) fun z hz => h z (List.mem_cons_of_mem _ hz)
    rw [List.flatten_cons, List.length_append, List.length_cons, Nat.mul_succ]
    omega
section
variable {K : PySem.W.Frag} {σ : L2.St} {H H' : Hp} {te tl tl1 : TE} {j j1 : Nat} {vs vs1 : List Nat}
theorem el_lc2T {a : Addr} {xs : List V} (yss : List (List V)) (h : Ev tl σ H (.ref a)) (hx : SqT K H a xs) (hl : yss.length = xs.length) (hz : xs.length ≤ 100) (h4 : ∀ y ∈ yss, y.length ≤ 4) (hw : ∀ x, wipe ((wipe σ vs).set j (some x)) vs = wipe σ vs)
    (hw1 : ∀ x y, wipe ((wipe ((wipe σ vs).set j (some x)) vs1).set j1 (some y)) vs1 = wipe ((wipe σ vs).set j (some x)) vs1)
    (hi : ∀ (i : Nat) (x : V) (ys : List V) H1, Ex H H1 → xs[i]? = some x → yss[i]? = some ys → ∃ b, Ev tl1 ((wipe σ vs).set j (some x)) H1 (.ref b) ∧ SqT K H1 b ys)
    (he : ∀ (x y : V) H1, Ev te ((wipe ((wipe σ vs).set j (some x)) vs1).set j1 (some y)) H1 y) : EvL (tLc2 (iTup K tl) (gName j) tYes (iTup K tl1) (gName j1) tYes te vs vs1) σ H yss.flatten := fun H0 e Q q => h H0 e _ fun H1 e1 => ⟨a, rfl, ⟨xs, ex_t (e.trans e1) hx⟩, fun Dl hD => by
  refine ⟨fun i m H' => m = xs.length - i ∧ i ≤ xs.length ∧ Ex H1 H' ∧ H' Dl = some (.lst (yss.take i).flatten), ⟨xs.length, by simp, Nat.zero_le _, Ex.new hD, upd_same⟩, ?_⟩
  rintro i m H' ⟨rfl, hle, e2, hd⟩
  have hx' := ex_t ((e.trans e1).trans e2) hx
  by_cases hlt : i < xs.length
  · refine .inr ⟨⟨xs, xs[i], hx', List.getElem?_eq_getElem hlt⟩, fun H2 => i + 1 ≤ xs.length ∧ Ex H1 H2 ∧ H2 Dl = some (.lst (yss.take (i + 1)).flatten), fun H2 p => ⟨xs.length - (i + 1), by omega, rfl, p.1, p.2⟩, fun x H2 y => ?_⟩
    obtain ⟨rfl, hy⟩ := y
    have hxi := hy xs hx'
    have hli : i < yss.length := by omega
    refine ⟨hw x, ?_⟩
    unfold tYes; dsimp only
    rw [if_pos rfl]
    obtain ⟨b, hb, hs⟩ := hi i x yss[i] H2 ((e.trans e1).trans e2) hxi (List.getElem?_eq_getElem hli)
    refine hb H2 (Ex.refl _) _ fun H3 e3 => ⟨b, rfl, ⟨_, ex_t e3 hs⟩, fun k m H4 => m = yss[i].length - k ∧ k ≤ yss[i].length ∧ (Ex H1 H4 ∧ ExT H3 H4) ∧ H4 Dl = some (.lst ((yss.take i).flatten ++ yss[i].take k)), ⟨yss[i].length, by simp, Nat.zero_le _, ⟨e2.trans e3, ExT.refl _⟩, by rw [List.take_zero, List.append_nil]; exact e3 Dl _ hd⟩, ?_⟩
    rintro k m H4 ⟨rfl, hk, ⟨e14, e4⟩, hd4⟩
    have hs4 := ext_t e4 (ex_t e3 hs)
    by_cases hkl : k < yss[i].length
    · refine .inr ⟨⟨_, yss[i][k], hs4, List.getElem?_eq_getElem hkl⟩, fun H5 => k + 1 ≤ yss[i].length ∧ (Ex H1 H5 ∧ ExT H3 H5) ∧ H5 Dl = some (.lst ((yss.take i).flatten ++ yss[i].take (k + 1))), fun H5 p => ⟨yss[i].length - (k + 1), by omega, rfl, p.1, p.2⟩, fun y H5 z => ?_⟩
      obtain ⟨rfl, hz2⟩ := z
      have hyk := hz2 _ hs4
      refine ⟨hw1 x y, ?_⟩
      rw [if_pos rfl]
      refine he x y H5 H5 (Ex.refl _) _ fun H6 e6 => ⟨_, e6 Dl _ hd4, sz_lt ?_, hkl, ?_, ?_⟩
      · have h1 : (yss.take i).flatten.length ≤ 4 * (yss.take i).length := flat_le fun z hz => h4 z (List.mem_of_mem_take hz)
        have h2 := h4 yss[i] (List.getElem_mem hli)
        rw [List.length_take] at h1
        rw [List.length_append, List.length_take]
        omega
      · exact ⟨Ex.mut (e14.trans e6) hD, (e4.trans (Ex.toT e6)).trans (ExT.lst (e6 Dl _ hd4))⟩
      · rw [upd_same, List.append_assoc]
        congr 3
        rw [List.take_add_one, hyk]
        rfl
    · have ek : k = yss[i].length := by omega
      subst ek
      refine .inl ⟨⟨_, hs4, Nat.le_refl _⟩, hlt, e14, ?_⟩
      rw [hd4, List.take_length, List.take_add_one, List.getElem?_eq_getElem hli, List.flatten_append]
      simp
  · have ei : i = xs.length := by omega
    subst ei
    refine .inl ⟨⟨xs, hx', Nat.le_refl _⟩, q Dl H' (fresh_back e1 hD) (e1.trans e2) ?_⟩
    rw [hd, ← hl, List.take_length]⟩
end
section
variable {P : Program} {w : World} {K : PySem.W.Frag} {mg : Str → Option Value} {base : Heap}
theorem ok_Circuit_uses (T : Tx K mg) (F : DefM K (He.ga K "Circuit") "uses" "Circuit.uses" s_Circuit_uses)  : C8.Met P w K mg base 1 (He.ga K "Circuit") "uses" (sp_Circuit_uses K) [] := by
  refine met_of T.clCircuit F sc_Circuit_uses (fun vs H Q E h => by obtain ⟨_, _, rfl, _⟩ := h; rfl) (fun _ _ _ _ _ _ us hl => match us, hl with | [_], _ => rfl) (fun f cdv A outer s H vs Q E hr h => ?_)
  obtain ⟨a, c, rfl, hp, k⟩ := h
  have hu := hu_of hr
  refine ⟨_, (pss_cons (ps_setLc2 (i := 1) (own := [("gate", 2), ("pin", 3)]) (vs1 := [3]) (g := gName 2) (tt := tYes) (g1 := gName 3) (tt1 := tYes) rfl sc_Circuit_uses.nd rfl rfl (sw_true rfl rfl rfl (by decide +kernel)) (pi_tup (pe_fld (pv 0) rfl)) (blkOk_by (N := ["self", "names", "gate", "pin", "cell"]) (sc := defScope s_Circuit_uses) (by decide +kernel)) (by decide) (fun _ _ _ _ _ => (pg_name (i := 2) sc_Circuit_uses.nd rfl (Or.inl rfl))) (fun _ _ _ _ _ => pts_nil) (fun _ _ _ _ _ => (show PI _ _ _ (iTup K _) from (pi_tup (pe_ix (r := rIxT K) ix_tup (pv 2) pe_int (fun _ _ => rfl))))) (fun _ _ _ _ _ => (pg_name (i := 3) sc_Circuit_uses.nd rfl (Or.inl rfl))) (fun _ _ _ _ _ => pts_nil) (fun _ _ _ _ _ => (pv 3)))
        (pss_one (ps_ret (pe_op op_cat (pe_op op_cat (pv 1) (pe_lc (own := [("cell", 4)]) (g := gName 4) (tt := tYes) rfl sc_Circuit_uses.nd (pi_tup (pe_fld (pv 0) rfl)) (blkOk_by (N := ["self", "names", "gate", "pin", "cell"]) (sc := defScope s_Circuit_uses) (by decide +kernel)) (fun _ _ _ _ _ => (pg_name (i := 4) sc_Circuit_uses.nd rfl (Or.inl rfl))) (fun _ _ _ _ _ => pts_nil) (fun _ _ _ _ _ => (pe_ix (r := rIxT K) ix_tup (pv 4) pe_int (fun _ _ => rfl))))) (pe_callTy call_list_of (by rfl) T.n_list (by decide +kernel) (pa_cons (pe_fld (pv 0) rfl) pa_nil)))))), ?_⟩
  obtain ⟨dx, fs, ti, tr, tg, to, h⟩ := id hp
  have f1 := h.few.outs
  have f2 := h.few.regs
  have f3 := h.few.gts
  have hfl : (c.gts.flatMap (·.2.pins)).length ≤ 400 := by
    have := flat_le (n := 4) (yss := c.gts.map (·.2.pins)) fun y hy => by
      obtain ⟨g, hg, rfl⟩ := List.mem_map.mp hy
      exact h.few.pins g hg
    rw [List.flatMap_def]
    rw [List.length_map] at this
    omega
  refine q_asgG (eg_l (el_lc2T (c.gts.map fun g => g.2.pins.map V.str) (ev_fld (ev_var rfl) h.ob T.clCircuit T.na_gates h.lg) h.sg (by simp) (by simpa using f3) (fun y hy => ?_) (fun _ => rfl) (fun _ _ => rfl) (fun i x ys H1 e hx hy => ?_) (fun x y H1 => ev_var rfl))) ?_
  · obtain ⟨g, hg, rfl⟩ := List.mem_map.mp hy
    simpa using h.few.pins g hg
  · obtain ⟨g, h1, rfl⟩ := map_at hx
    rw [List.getElem?_map, h1] at hy
    cases hy
    obtain ⟨b, q, h2, h3, h4⟩ := h.dg g (List.mem_of_getElem? h1)
    exact ⟨q, ev_op (ev_var (by rw [h2]; rfl)) ev_c (rv_ixT (ex_t e h3) rfl), ex_t e h4⟩
  · intro p H1 hp1 e1 hq
    have eq : (c.gts.map fun g => g.2.pins.map V.str).flatten = (c.gts.flatMap (·.2.pins)).map V.str := by
      rw [List.flatMap_def, List.map_flatten, List.map_map]
      rfl
    rw [eq] at hq
    have h1 := h.mono e1
    refine s_retG (eg_l (el_cat (xs := (c.gts.flatMap (·.2.pins)).map V.str ++ c.takens.map V.str) (ys := c.outs.map V.str) (el_catV (xs := (c.gts.flatMap (·.2.pins)).map V.str) (ys := c.takens.map V.str) (ev_var rfl) hq
      (el_mapT (ev_fld (ev_var rfl) h1.ob T.clCircuit T.na_registers h1.lr) h1.sr (by simp; omega) (by simp [Ck.takens]) (fun _ => rfl) fun i x y H2 e hx hy => ?_) (by simp only [List.length_map, Ck.takens]; omega)) (el_listT (ev_fld (ev_var rfl) h1.ob T.clCircuit T.na_outputs h1.lo) h1.so) (by simp only [List.length_append, List.length_map, Ck.takens]; omega))) ?_
    · obtain ⟨r, h2, rfl⟩ := map_at hx
      rw [Ck.takens, List.map_map, List.getElem?_map, h2] at hy
      cases hy
      obtain ⟨b, h3, h4⟩ := h1.dr r (List.mem_of_getElem? h2)
      exact ev_op (ev_var (by rw [h3]; rfl)) ev_c (rv_ixT (ex_t e h4) rfl)
    · have e : c.uses.map V.str = (c.gts.flatMap (·.2.pins)).map V.str ++ c.takens.map V.str ++ c.outs.map V.str := by rw [Ck.uses, List.map_append, List.map_append]
      rw [e] at k
      exact mo_L _ _ _ e1 k
theorem take_snoc {α : Type} {l : List α} {i : Nat} {x : α} (h : l[i]? = some x) : l.take (i + 1) = l.take i ++ [x] := by
  rw [List.take_add_one, h]
  rfl
theorem nd_take {l : List Str} {i : Nat} {x : Str} (nd : l.Nodup) (h : l[i]? = some x) : x ∉ l.take i := by
  intro m
  obtain ⟨k, hk⟩ := List.mem_iff_getElem?.mp m
  rw [List.getElem?_take] at hk
  split at hk
  · have := nd_ix nd hk h
    omega
  · cases hk
theorem ins_new {ks : List Str} {z : Str} (h : z ∉ ks) : ins ks z = ks ++ [z] := if_neg h
theorem ok_Circuit_check_names (T : Tx K mg) (F : DefM K (He.ga K "Circuit") "check_names" "Circuit.check_names" s_Circuit_check_names) (g_Circuit_lines : C8.Met P w K mg base 2 (He.ga K "Circuit") "lines" (sp_Circuit_lines K) []) (g_Circuit_sources : C8.Met P w K mg base 1 (He.ga K "Circuit") "sources" (sp_Circuit_sources K) []) (g_Circuit_uses : C8.Met P w K mg base 1 (He.ga K "Circuit") "uses" (sp_Circuit_uses K) []) : C8.Met P w K mg base 3 (He.ga K "Circuit") "check_names" (sp_Circuit_check_names K) [] := by
  refine met_of T.clCircuit F sc_Circuit_check_names (fun vs H Q E h => by obtain ⟨_, _, rfl, _⟩ := h; rfl) (fun _ _ _ _ _ _ us hl => match us, hl with | [_], _ => rfl) (fun f cdv A outer s H vs Q E hr h => ?_)
  obtain ⟨a, c, rfl, hp, ok, k⟩ := h
  have hu := hu_of hr
  refine ⟨_, (pss_cons (ps_set (i := 1) sc_Circuit_check_names.nd rfl (Or.inl rfl) pe_dnewK)
        (pss_cons (ps_for PassesOwn.never rfl (pi_list (C8.pe_mt0 g_Circuit_lines hr (by decide) (pv 0))) (pg_name (i := 2) sc_Circuit_check_names.nd rfl (Or.inl rfl))
          (pss_cons (ps_if (pt_cmp (pc_din hu (pv 2) (pv 1)))
              (pss_one ps_never)
              pss_nil)
            (pss_one (ps_dput hu (pv 1) (pv 2) pe_bl rfl))))
        (pss_cons (ps_for PassesOwn.never rfl (pi_list (C8.pe_mt0 g_Circuit_uses hr (by decide) (pv 0))) (pg_name (i := 2) sc_Circuit_check_names.nd rfl (Or.inl rfl))
          (pss_one (ps_if (pt_cmp (pc_dnotin hu (pv 2) (pv 1)))
              (pss_one ps_never)
              pss_nil)))
        (pss_one (ps_if (PW.pt (pw_or (pt_cmpR op_gt (pe_callB call_len_seq (by rfl) T.n_len PySem.boot_len (pa_cons (C8.pe_mt0 g_Circuit_lines hr (by decide) (pv 0)) pa_nil)) (C8.pe_gc rfl T.cMOST_LINES) (nomark _)) (pw_or1 (pt_cmpR op_gt (pe_callB call_len_seq (by rfl) T.n_len PySem.boot_len (pa_cons (C8.pe_mt0 g_Circuit_sources hr (by decide) (pv 0)) pa_nil)) (C8.pe_gc rfl T.cMOST_SOURCES) (nomark _)))))
          (pss_one ps_never)
          pss_nil))))), ?_⟩
  obtain ⟨dx, fs, ti, tr, tg, to, h⟩ := id hp
  have hln := ok.ln
  have hsn := ok.sn
  refine q_asgG eg_dnew ?_
  intro p H1 hp1 e1 hq
  have hp' := hp.mono e1
  refine q_forNLn (eg_lines (ev_var rfl) hp') (fun lp i σ' H' => (∃ v, σ' = [some (.ref a), some (.ref p), v]) ∧ Ex H H' ∧ H' p = some (.dK ((c.lines.take i).map kvT)) ∧ H' lp = some (.lst (c.lines.map V.str))) (fun lp H2 hl e2 hx => ⟨⟨_, rfl⟩, e1.trans e2, e2 p _ hq, hx⟩) (fun lp i σ' H' _ q => sq_of q.2.2.2) (fun lp i x σ' H' hi q => ?_) (fun lp σ' H' q => ?_)
  · obtain ⟨⟨v, rfl⟩, e, hd, hl⟩ := q
    obtain ⟨z, hz, rfl⟩ := map_at hi
    have hn := nd_take ok.nd hz
    refine q_when (b := false) (et_B (ev_din (ev_var rfl) (ev_var rfl) (.inl hd) (by rw [valV_kvT]; simpa using hn))) (fun q => nomatch q) fun _ H2 e2 => ?_
    have hlt := (List.getElem?_eq_some_iff.mp hz).1
    refine s_dput (e2 _ _ hd) (by rw [List.length_map, List.length_take]; omega) ev_c (ev_var rfl) (ev_var rfl) fun H3 e3 => ⟨⟨_, rfl⟩, Ex.mut ((e.trans e2).trans e3) hp1, ?_, ?_⟩
    · rw [upd_same, putK_kvT, ins_new hn, ← take_snoc hz]
    · rw [upd_ne (ne_of hl hd (by intro q; cases q))]
      exact e3 _ _ (e2 _ _ hl)
  obtain ⟨⟨v, rfl⟩, e, hd, hl⟩ := q
  rw [List.length_map, List.take_length] at hd
  have hp2 := hp.mono e
  refine q_forNL_ro (fun _ σ' => ∃ v, σ' = [some (.ref a), some (.ref p), v]) (eg_uses (ev_var rfl) hp2) ⟨_, rfl⟩ (fun i x σ' H2 N hi hs e2 kN => ?_) (fun σ' H2 hs e2 => ?_)
  · obtain ⟨v, rfl⟩ := hs
    obtain ⟨z, hz, rfl⟩ := map_at hi
    exact s_when (b := false) (et_B (ev_dnin (ev_var rfl) (ev_var rfl) (.inl (e2 _ _ hd)) (by rw [valV_kvT]; simpa using ok.us z (List.mem_of_getElem? hz)))) (fun q => nomatch q) fun _ H3 e3 => kN _ _ ⟨_, rfl⟩ e3
  · obtain ⟨v, rfl⟩ := hs
    have hp3 := hp2.mono e2
    refine s_when (b := false) (et_or (a := false) (et_test (ev_is (ev_op (ev_lenN (eg_lines (ev_var rfl) hp3)) ev_c rv_I0) ?_)) fun _ => et_test (ev_is (ev_op (ev_lenN (eg_sources (ev_var rfl) hp3)) ev_c rv_I0) ?_)) (fun q => nomatch q) fun _ H3 e3 => k H3 ((e.trans e2).trans e3)
    · rw [List.length_map]
      congr 1
      rw [decide_eq_false_iff_not]
      omega
    · rw [List.length_map]
      congr 1
      rw [decide_eq_false_iff_not]
      omega
theorem ins_len (ks : List Str) (z : Str) : (ins ks z).length ≤ ks.length + 1 := by
  unfold ins
  split <;> simp
theorem ok_Circuit_above (T : Tx K mg) (F : DefM K (He.ga K "Circuit") "above" "Circuit.above" s_Circuit_above)  : C8.Met P w K mg base 1 (He.ga K "Circuit") "above" (sp_Circuit_above K) [] := by
  refine met_of T.clCircuit F sc_Circuit_above (fun vs H Q E h => by obtain ⟨_, _, _, rfl, _⟩ := h; rfl) (fun _ _ _ _ _ _ us hl => match us, hl with | [_, _], _ => rfl) (fun f cdv A outer s H vs Q E hr h => ?_)
  obtain ⟨a, z, od, rfl, ho, k⟩ := h
  have hu := hu_of hr
  refine ⟨_, (pss_cons (ps_set (i := 2) sc_Circuit_above.nd rfl (Or.inl rfl) (pe_disp (pps_cons (pv 1) pe_bl pps_nil) (by rfl) (by rfl) (fun z => by cases z) (by decide)))
        (pss_cons (ps_for PassesOwn.never rfl (pi_list (pe_revL (pe_fld (pv 0) rfl))) (pg_name (i := 3) sc_Circuit_above.nd rfl (Or.inl rfl))
          (pss_one (ps_if (pt_cmp (pc_din hu (pe_ix ix_tup (pv 3) pe_int (fun _ _ => rfl)) (pv 2)))
              (pss_one (ps_for PassesOwn.never rfl (pi_tup (pe_ix ix_tup (pv 3) pe_int (fun _ _ => rfl))) (pg_name (i := 4) sc_Circuit_above.nd rfl (Or.inl rfl))
                  (pss_one (ps_dput hu (pv 2) (pv 4) pe_bl rfl))))
              pss_nil)))
        (pss_one (ps_ret (pv 2))))), ?_⟩
  obtain ⟨dx, fs, lo, h1, h2, h3, h4, h5, h6, h7⟩ := id ho
  refine q_asgG (eg_disp1 (ev_var rfl) ev_c) ?_
  intro p H1 hp1 e1 hq
  refine q_forNLn (el_rev (ev_fld (ev_var rfl) (e1 _ _ h1) T.clCircuit T.na_order h2) (ex_l e1 h4)) (fun lp i σ' H' => (∃ v w, σ' = [some (.ref a), some (.str z), some (.ref p), v, w]) ∧ Ex H H' ∧ (∃ ks, H' p = some (.dK (ks.map kvT)) ∧ abv (od.reverse.drop i) ks = abv od.reverse [z] ∧ ks.length ≤ 1 + 4 * i) ∧ H' lp = some (.lst (od.map (·.1)).reverse))
    (fun lp H2 hl e2 hx => ⟨⟨_, _, rfl⟩, e1.trans e2, ⟨[z], e2 p _ hq, rfl, by simp⟩, hx⟩) (fun lp i σ' H' _ q => sq_of q.2.2.2) (fun lp i x σ' H' hi q => ?_) (fun lp σ' H' q => ?_)
  · obtain ⟨⟨v, w', rfl⟩, e, ⟨ks, hd, hk, hkl⟩, hl⟩ := q
    rw [← List.map_reverse] at hi
    obtain ⟨g, hg, rfl⟩ := map_at hi
    have hm : g ∈ od := List.mem_reverse.mp (List.mem_of_getElem? hg)
    obtain ⟨b, q, g1, g2, g3⟩ := (h5 g hm).mono e
    have hilt := (List.getElem?_eq_some_iff.mp hg).1
    rw [List.length_reverse] at hilt
    have hdrop : od.reverse.drop i = g :: od.reverse.drop (i + 1) := by
      have hlt := (List.getElem?_eq_some_iff.mp hg).1
      rw [List.drop_eq_getElem_cons hlt]
      congr 1
      exact (List.getElem?_eq_some_iff.mp hg).2
    rw [hdrop, abv] at hk
    refine s_when (b := decide (g.2.nm ∈ ks)) (et_B (ev_din (ev_op (ev_var (by rw [g1]; rfl)) ev_c (rv_ixT g2 rfl)) (ev_var rfl) (.inl hd) (valV_kvT _ _))) (fun hb H2 e2 => ?_) fun hb H2 e2 => ?_
    · have hb := of_decide_eq_true hb
      rw [if_pos hb] at hk
      have hl2 := e2 _ _ hl
      refine s_forT (xs := g.2.pins.map V.str) (ev_op (ev_var (by rw [g1]; rfl)) ev_c (rv_ixT (ex_t e2 g2) rfl)) (ex_t e2 g3) (fun i2 σ2 H3 => (∃ w, σ2 = [some (.ref a), some (.str z), some (.ref p), some g.1, w]) ∧ Ex H H3 ∧ (∃ ks2, H3 p = some (.dK (ks2.map kvT)) ∧ (g.2.pins.drop i2).foldl ins ks2 = g.2.pins.foldl ins ks ∧ ks2.length ≤ ks.length + i2) ∧ H3 lp = some (.lst (od.map (·.1)).reverse) ∧ SqT K H3 q (g.2.pins.map V.str))
        (fun H3 e3 => ⟨⟨_, rfl⟩, (e.trans e2).trans e3, ⟨ks, e3 _ _ (e2 _ _ hd), rfl, by simp⟩, e3 _ _ hl2, ex_t (e2.trans e3) g3⟩) (fun i2 σ2 H3 _ r => r.2.2.2.2) (fun i2 x σ2 H3 hi2 r => ?_) (fun σ2 H3 r => ?_)
      · obtain ⟨⟨w2, rfl⟩, e3, ⟨ks2, hd2, hf, hl3⟩, hl4, hs⟩ := r
        obtain ⟨y, hy, rfl⟩ := map_at hi2
        have hy1 := (List.getElem?_eq_some_iff.mp hy).1
        have hp4 := h7 g hm
        refine s_dput hd2 (by rw [List.length_map]; omega) ev_c (ev_var rfl) (ev_var rfl) fun H4 e4 => ⟨⟨_, rfl⟩, Ex.mut (e3.trans e4) hp1, ⟨ins ks2 y, by rw [upd_same, putK_kvT], ?_, by have := ins_len ks2 y; omega⟩, ?_, ?_⟩
        · rw [List.drop_eq_getElem_cons hy1, (List.getElem?_eq_some_iff.mp hy).2] at hf
          exact hf
        · rw [upd_ne (ne_of hl4 hd2 (by intro q; cases q))]
          exact e4 _ _ hl4
        · have h8 := ex_t e4 hs
          rcases h8 with (h8 | ⟨o, h8⟩) | h8
          · exact .inl (.inl (by rw [upd_ne (ne_of h8 (e4 _ _ hd2) (by intro q; cases q))]; exact h8))
          · exact .inl (.inr ⟨o, by rw [upd_ne (ne_of h8 (e4 _ _ hd2) (by intro q; cases q))]; exact h8⟩)
          · exact .inr h8
      · obtain ⟨⟨w2, rfl⟩, e3, ⟨ks2, hd2, hf, hl3⟩, hl4, hs⟩ := r
        rw [List.length_map, List.drop_length] at hf
        have hp4 := h7 g hm
        refine ⟨⟨_, _, rfl⟩, e3, ⟨ks2, hd2, ?_, ?_⟩, hl4⟩
        · have hf : ks2 = g.2.pins.foldl ins ks := hf
          rw [hf]
          exact hk
        · rw [List.length_map] at hl3
          omega
    · have hb := of_decide_eq_false hb
      rw [if_neg hb] at hk
      exact ⟨⟨_, _, rfl⟩, e.trans e2, ⟨ks, e2 _ _ hd, hk, by omega⟩, e2 _ _ hl⟩
  · obtain ⟨⟨v, w', rfl⟩, e, ⟨ks, hd, hk, hkl⟩, hl⟩ := q
    have hlen : (od.map (·.1)).reverse.length = od.reverse.length := by simp
    rw [hlen, List.drop_length] at hk
    refine s_ret (v := .ref p) (ev_var rfl) fun H2 e2 => k p H2 hp1 (e.trans e2) ?_
    show H2 p = some _
    rw [e2 _ _ hd]
    have hk : ks = abv od.reverse [z] := hk
    rw [hk]
end
end Pw


namespace Pw
open PySem PySem.Spec PyProof.Rows L2 Evl
/-! ### the order of the gates -/
def nms (l : List GV) : List Str := l.map (·.2.nm)
def Topo : List Str → List GV → Prop
  | _, [] => True
  | ks, g :: r => (∀ z ∈ g.2.pins, z ∈ ks) ∧ Topo (ks ++ [g.2.nm]) r
theorem topo_snoc : ∀ {l : List GV} {ks : List Str} {g : GV}, Topo ks l → (∀ z ∈ g.2.pins, z ∈ ks ++ nms l) → Topo ks (l ++ [g])
  | [], ks, g, _, h => ⟨by simpa [nms] using h, trivial⟩
  | x :: l, ks, g, t, h => ⟨t.1, topo_snoc t.2 (by
      intro z hz
      have := h z hz
      rw [List.append_assoc]
      exact this)⟩
theorem topo_go {K0 : List Str} {od wt : List GV} : ∀ {gs : List GV} {ks : List Str}, Topo ks gs → (∀ z ∈ ks, z ∈ K0) → (∀ g ∈ gs, g ∈ od ∨ g ∈ wt) → (∀ g ∈ od, g.2.nm ∈ K0) → (∃ g ∈ gs, g ∈ wt) → ∃ g ∈ wt, ∀ z ∈ g.2.pins, z ∈ K0
  | [], _, _, _, _, _, ⟨g, hg, _⟩ => nomatch hg
  | x :: gs, ks, t, hk, hg, ho, ⟨g, hm, hw⟩ => by
    by_cases hx : x ∈ wt
    · exact ⟨x, hx, fun z hz => hk z (t.1 z hz)⟩
    · have hxo : x ∈ od := (hg x List.mem_cons_self).resolve_right hx
      refine topo_go t.2 (fun z hz => ?_) (fun y hy => hg y (List.mem_cons_of_mem _ hy)) ho ⟨g, ?_, hw⟩
      · rcases List.mem_append.mp hz with h | h
        · exact hk z h
        · rw [List.mem_singleton.mp h]
          exact ho x hxo
      · rcases List.mem_cons.mp hm with h | h
        · exact absurd (h ▸ hw) hx
        · exact h
def gdata (g : GV) : PyData := .tuple [.str g.2.nm, .str g.2.kd, .tuple (g.2.pins.map PyData.str)]
theorem U_str : ∀ z ∈ U, PyData.strOk z = true := by decide +kernel
theorem kd_str {k : Str} {n : Nat} (h : Allowed k n) : PyData.strOk k = true := by
  have h0 : ∀ z ∈ k0, PyData.strOk z = true := by decide +kernel
  have h1 : ∀ z ∈ k1, PyData.strOk z = true := by decide +kernel
  have h4 : ∀ z ∈ k4, PyData.strOk z = true := by decide +kernel
  rcases h with ⟨h, _⟩ | ⟨h, _⟩ | ⟨h, _⟩
  · exact h0 k h
  · exact h1 k h
  · exact h4 k h
theorem gdata_sh {g : GV} (h : GateOk g.2) : Sh 3 (gdata g) := by
  refine sh_tup fun d hd => ?_
  rcases List.mem_cons.mp hd with rfl | hd
  · exact sh_str (U_str _ h.1)
  rcases List.mem_cons.mp hd with rfl | hd
  · exact sh_str (kd_str h.2.2)
  rcases List.mem_cons.mp hd with rfl | hd
  · refine sh_tup fun d hd => ?_
    obtain ⟨z, hz, rfl⟩ := List.mem_map.mp hd
    exact sh_str (U_str _ (h.2.1 z hz))
  · cases hd
theorem gdata_dp {K : PySem.W.Frag} {H : Hp} {g : GV} (h : GateAt K H g.1 g.2) : Dp K H g.1 (gdata g) := by
  obtain ⟨a, q, h1, h2, h3⟩ := h
  rw [h1]
  exact .tup h2 (.cons (.str _) (.cons (.str _) (.cons (.tup h3 (dpAll_of fun z _ => .str z)) .nil)))
theorem eqv_nil (l : List GV) : (!PyData.eqv (.list (l.map gdata)) (.list [])) = decide (l ≠ []) := by
  cases l with
  | nil => rfl
  | cons x l => rfl
theorem nms_append (a b : List GV) : nms (a ++ b) = nms a ++ nms b := List.map_append
def sp_Circuit_sorted_gates (K : PySem.W.Frag) : Sp := fun vs H Q _ => ∃ (a : Addr) (c : Ck), vs = [.ref a] ∧ PartsAt K H a c ∧ FormsOk c ∧ c.lines.Nodup ∧ (∃ gs : List GV, gs.Perm c.gts ∧ Topo c.srcs gs) ∧
  RetF (fun p H2 => ∃ od : List GV, H2 p = some (.lst (od.map (·.1))) ∧ od.Perm c.gts ∧ Topo c.srcs od) H Q
theorem kvT_keys (ks : List Str) : (ks.map kvT).map (·.1) = ks.map Sum.inr := by
  rw [List.map_map]
  rfl
theorem nd_inr {ks : List Str} (h : ks.Nodup) : ((ks.map kvT).map (·.1)).Nodup := by
  rw [kvT_keys]
  exact List.Pairwise.map _ (fun a b hab e => hab (Sum.inr.inj e)) h
section
variable {P : Program} {w : World} {K : PySem.W.Frag} {mg : Str → Option Value} {base : Heap}
theorem ok_Circuit_sorted_gates (T : Tx K mg) (F : DefM K (He.ga K "Circuit") "sorted_gates" "Circuit.sorted_gates" s_Circuit_sorted_gates) (g_Circuit_sources : C8.Met P w K mg base 1 (He.ga K "Circuit") "sources" (sp_Circuit_sources K) []) : C8.Met P w K mg base 2 (He.ga K "Circuit") "sorted_gates" (sp_Circuit_sorted_gates K) [] := by
  refine met_of T.clCircuit F sc_Circuit_sorted_gates (fun vs H Q E h => by obtain ⟨_, _, rfl, _⟩ := h; rfl) (fun _ _ _ _ _ _ us hl => match us, hl with | [_], _ => rfl) (fun f cdv A outer s H vs Q E hr h => ?_)
  obtain ⟨a, c, rfl, hp, ok, nd, ⟨gs, hgs, htp⟩, k⟩ := h
  have hu := hu_of hr
  refine ⟨_, (pss_cons (ps_set (i := 1) sc_Circuit_sorted_gates.nd rfl (Or.inr rfl) (pe_dc (own := [("name", 2)]) (g := gName 2) (tt := tYes) rfl sc_Circuit_sorted_gates.nd (pi_list (C8.pe_mt0 g_Circuit_sources hr (by decide) (pv 0))) (blkOk_by (N := ["self", "known", "name", "order", "waiting", "later", "gate", "pin"]) (sc := defScope s_Circuit_sorted_gates) (by decide +kernel)) (fun _ _ _ _ _ => (pg_name (i := 2) sc_Circuit_sorted_gates.nd rfl (Or.inl rfl))) (fun _ _ _ _ _ => pts_nil) (fun _ _ _ _ _ => (pv 2)) (fun _ _ _ _ _ => pe_bl)))
        (pss_cons (ps_set (i := 3) sc_Circuit_sorted_gates.nd rfl (Or.inl rfl) (pe_lst pa_nil))
        (pss_cons (ps_set (i := 4) sc_Circuit_sorted_gates.nd rfl (Or.inl rfl) (pe_callTy call_list_of (by rfl) T.n_list (by decide +kernel) (pa_cons (pe_fld (pv 0) rfl) pa_nil)))
        (pss_cons (ps_while PassesOwn.never (pt_cmpR (op_neD hr.units) (pv 4) (pe_lst pa_nil) (nomark _))
          (pss_cons (ps_set (i := 5) sc_Circuit_sorted_gates.nd rfl (Or.inl rfl) (pe_lst pa_nil))
            (pss_cons (ps_for PassesOwn.never rfl (pi_list (pv 4)) (pg_name (i := 6) sc_Circuit_sorted_gates.nd rfl (Or.inl rfl))
              (pss_one (ps_if (pt_val (pe_callB (cr_all rfl) (by rfl) T.n_all (by decide +kernel) (pa_cons (pe_lc (own := [("pin", 7)]) (g := gName 7) (tt := tYes) rfl sc_Circuit_sorted_gates.nd (pi_tup (pe_ix ix_tup (pv 6) pe_int (fun _ _ => rfl))) (blkOk_by (N := ["self", "known", "name", "order", "waiting", "later", "gate", "pin"]) (sc := defScope s_Circuit_sorted_gates) (by decide +kernel)) (fun _ _ _ _ _ => (pg_name (i := 7) sc_Circuit_sorted_gates.nd rfl (Or.inl rfl))) (fun _ _ _ _ _ => pts_nil) (fun _ _ _ _ _ => (pe_cmp (pc_din hu (pv 7) (pv 1))))) pa_nil)))
                  (pss_cons (ps_dput hu (pv 1) (pe_ix ix_tup (pv 6) pe_int (fun _ _ => rfl)) pe_bl rfl)
                    (pss_one (ps_expr (pe_bm PySem.F.plainAttrs_list PySem.F.slot_list_append PySem.F.type_list_append mt_append (pv 3) (pa_cons (pv 6) pa_nil)))))
                  (pss_one (ps_expr (pe_bm PySem.F.plainAttrs_list PySem.F.slot_list_append PySem.F.type_list_append mt_append (pv 5) (pa_cons (pv 6) pa_nil)))))))
            (pss_cons (ps_if (pt_cmpR op_eq (pe_callB call_len_seq (by rfl) T.n_len PySem.boot_len (pa_cons (pv 5) pa_nil)) (pe_callB call_len_seq (by rfl) T.n_len PySem.boot_len (pa_cons (pv 4) pa_nil)) (nomark _))
              (pss_one ps_never)
              pss_nil)
            (pss_one (ps_set (i := 4) sc_Circuit_sorted_gates.nd rfl (Or.inl rfl) (pv 5)))))))
        (pss_one (ps_ret (pv 3))))))), ?_⟩
  obtain ⟨dx, fs, ti, tr, tg, to, h⟩ := id hp
  have f1 := h.few.ins
  have f2 := h.few.regs
  have f3 := h.few.gts
  have hsl : c.srcs.length ≤ 200 := by simp [Ck.srcs]; omega
  have hat : ∀ H', Ex H H' → ∀ g ∈ c.gts, GateAt K H' g.1 g.2 := fun H' e g hg => (h.dg g hg).mono e
  refine q_asgG (eg_dcNL (kvs := c.srcs.map kvT) (eg_sources (ev_var rfl) hp) (by simp) (by simp; omega) (nd_inr (List.nodup_append.mp nd).1) (fun _ => rfl) fun i x q H1 e hx hq => ?_) ?_
  · obtain ⟨z, hz, rfl⟩ := map_at hx
    rw [List.getElem?_map, hz] at hq
    cases hq
    exact ⟨z, rfl, ev_var rfl, ev_c⟩
  intro p H1 hp1 e1 hd
  refine q_asgL (el_lst ea_nil (by simp)) fun o H2 ho e2 hol => ?_
  have hp2 := h.mono (e1.trans e2)
  refine q_asgL (el_listT (ev_fld (ev_var rfl) hp2.ob T.clCircuit T.na_gates hp2.lg) hp2.sg) fun w0 H3 hw0 e3 hwl => ?_
  have ho1 : H o = none := fresh_back e1 ho
  have hw1 : H w0 = none := fresh_back (e1.trans e2) hw0
  refine q_while (fun m σ' H' => ∃ (od wt : List GV) (w : Addr) (v2 v5 v6 v7 : Option V), m = wt.length ∧ σ' = [some (.ref a), some (.ref p), v2, some (.ref o), some (.ref w), v5, v6, v7] ∧ Ex H H' ∧ H' p = some (.dK ((c.srcs ++ nms od).map kvT)) ∧ H' o = some (.lst (od.map (·.1))) ∧ H' w = some (.lst (wt.map (·.1))) ∧ o ≠ w ∧ (od ++ wt).Perm c.gts ∧ Topo c.srcs od)
    c.gts.length ⟨[], c.gts, w0, _, _, _, _, rfl, rfl, (e1.trans e2).trans e3, by simpa [nms] using e3 _ _ (e2 _ _ hd), e3 _ _ hol, hwl, ne_of_none hol hw0, List.Perm.refl _, trivial⟩ ?_
  rintro m σ' H' ⟨od, wt, w, v2, v5, v6, v7, rfl, rfl, e, hd, hol, hwl, how, hpm, ht⟩
  have hwm : ∀ g ∈ wt, g ∈ c.gts := fun g hg => hpm.mem_iff.mp (List.mem_append_right _ hg)
  have hwn : wt.length ≤ 100 := by
    have := hpm.length_eq
    rw [List.length_append] at this
    omega
  refine ⟨decide (wt ≠ []), et_test (ev_opL (ev_var rfl) (el_lst ea_nil (by simp)) fun q H4 hq e4 => rv_neD (.lst (sq_of (e4 _ _ hwl)) (dpAll_of fun g hg => gdata_dp (hat H4 (e.trans e4) g (hwm g hg)))) (.lst (sq_of hq) .nil) ((sh_list (n := 3) fun d hd => ?_).ok (by omega)) rfl (eqv_nil wt)), fun hb H4 e4 => ?_, fun hb H4 e4 => ?_⟩
  · obtain ⟨g, hg, rfl⟩ := List.mem_map.mp hd
    exact gdata_sh (ok.gt g (hwm g hg))
  · have hne : wt ≠ [] := of_decide_eq_true hb
    refine ⟨fun σ2 H2 => ∃ m', m' < wt.length ∧ ∃ (od wt : List GV) (w : Addr) (v2 v5 v6 v7 : Option V), m' = wt.length ∧ σ2 = [some (.ref a), some (.ref p), v2, some (.ref o), some (.ref w), v5, v6, v7] ∧ Ex H H2 ∧ H2 p = some (.dK ((c.srcs ++ nms od).map kvT)) ∧ H2 o = some (.lst (od.map (·.1))) ∧ H2 w = some (.lst (wt.map (·.1))) ∧ o ≠ w ∧ (od ++ wt).Perm c.gts ∧ Topo c.srcs od, fun σ2 H2 q => q, ?_⟩
    refine q_asgL (el_lst ea_nil (by simp)) fun l H5 hl e5 hll => ?_
    have e45 := e4.trans e5
    have hl1 : H l = none := fresh_back (e.trans e4) hl
    have hol4 := e4 _ _ hol
    have hwl4 := e4 _ _ hwl
    have hd4 := e4 _ _ hd
    have hnol : o ≠ l := ne_of_none hol4 hl
    have hnwl : w ≠ l := ne_of_none hwl4 hl
    refine q_forLn (ev_var rfl) (sq_of (e5 _ _ hwl4)) (fun i σ2 H2 => ∃ (oi li : List GV) (v6 v7 : Option V), σ2 = [some (.ref a), some (.ref p), v2, some (.ref o), some (.ref w), some (.ref l), v6, v7] ∧ Ex H H2 ∧ H2 p = some (.dK ((c.srcs ++ nms oi).map kvT)) ∧ H2 o = some (.lst (oi.map (·.1))) ∧ H2 w = some (.lst (wt.map (·.1))) ∧ H2 l = some (.lst (li.map (·.1))) ∧ (oi ++ li ++ wt.drop i).Perm c.gts ∧ Topo c.srcs oi ∧ li.length ≤ i ∧ (li.length = i → oi = od ∧ ∀ g ∈ wt.take i, ¬ ∀ z ∈ g.2.pins, z ∈ c.srcs ++ nms od))
      (fun H6 e6 => ⟨od, [], _, _, rfl, (e.trans e45).trans e6, e6 _ _ (e5 _ _ hd4), e6 _ _ (e5 _ _ hol4), e6 _ _ (e5 _ _ hwl4), e6 _ _ hll, by simpa using hpm, ht, Nat.zero_le _, fun _ => ⟨rfl, by simp⟩⟩)
      (fun i σ2 H2 _ q => by obtain ⟨_, _, _, _, _, _, _, _, hw, _⟩ := q; exact sq_of hw) (fun i x σ2 H2 hi q => ?_) (fun σ2 H2 q => ?_)
    · obtain ⟨oi, li, v6, v7, rfl, e6, hd6, ho6, hw6, hl6, hpm6, ht6, hli, hbl⟩ := q
      obtain ⟨g, hg, rfl⟩ := map_at hi
      obtain ⟨hig, hge⟩ := List.getElem?_eq_some_iff.mp hg
      have hgm : g ∈ c.gts := hwm g (List.mem_of_getElem? hg)
      obtain ⟨b, q, g1, g2, g3⟩ := hat H2 e6 g hgm
      have hpl := h.few.pins g hgm
      rw [List.drop_eq_getElem_cons hig, hge] at hpm6
      have hlen := hpm6.length_eq
      simp only [List.length_append, List.length_cons] at hlen
      have hnm : g.2.nm ∉ c.srcs ++ nms oi := by
        have h2 : (nms (oi ++ li ++ g :: wt.drop (i + 1))).Perm (nms c.gts) := hpm6.map _
        have h3 : (c.srcs ++ nms (oi ++ li ++ g :: wt.drop (i + 1))).Nodup := (List.Perm.append_left c.srcs h2).nodup_iff.mpr nd
        rw [nms_append, nms_append, ← List.append_assoc, ← List.append_assoc] at h3
        intro hm
        exact (List.nodup_append.mp h3).2.2 g.2.nm (List.mem_append_left _ hm) g.2.nm (by simp [nms]) rfl
      refine s_if (b := (g.2.pins.map fun z => decide (z ∈ c.srcs ++ nms oi)).all id) (et_B (ev_all (el_mapT (xs := g.2.pins.map V.str) (ys := (g.2.pins.map fun z => decide (z ∈ c.srcs ++ nms oi)).map V.bl) (ev_op (ev_var (by rw [g1]; rfl)) ev_c (rv_ixT g2 rfl)) g3 (by simp; omega) (by simp) (fun _ => rfl) fun i x y H7 e7 hx hy => ?_))) (fun hb H7 e7 => ?_) (fun hb H7 e7 => ?_)
      · obtain ⟨z, hz, rfl⟩ := map_at hx
        rw [List.map_map, List.getElem?_map, hz] at hy
        cases hy
        exact ev_din (ev_var rfl) (ev_var rfl) (.inl (e7 _ _ hd6)) (valV_kvT _ _)
      · have hin : ∀ z ∈ g.2.pins, z ∈ c.srcs ++ nms oi := by simpa using hb
        refine q_dput (z := g.2.nm) (e7 _ _ hd6) (by simp [nms]; omega) ev_c (ev_var rfl) (ev_op (ev_var (by rw [g1]; rfl)) ev_c (rv_ixT (ex_t e7 g2) rfl)) fun H8 e8 => ?_
        have e78 := e7.trans e8
        have ho8 : upd H8 p (.dK (putK ((c.srcs ++ nms oi).map kvT) (.inr g.2.nm) (.bl true))) o = some (.lst (oi.map (·.1))) := by
          rw [upd_ne (ne_of ho6 hd6 (by intro q; cases q))]
          exact e78 _ _ ho6
        refine s_app ho8 (ev_var rfl) (ev_var rfl) (by rw [List.length_map]; omega) fun H9 e9 => ?_
        refine ⟨oi ++ [g], li, _, _, rfl, Ex.mut ((Ex.mut (e6.trans e78) hp1).trans e9) ho1, ?_, ?_, ?_, ?_, ?_, topo_snoc ht6 hin, by omega, fun q => absurd q (by omega)⟩
        · rw [upd_ne (ne_of hd6 ho6 (by intro q; cases q)), e9 p _ upd_same, putK_kvT, ins_new hnm, nms_append, ← List.append_assoc]
          rfl
        · rw [upd_same, List.map_append]
          rfl
        · rw [upd_ne (Ne.symm how)]
          refine e9 _ _ ?_
          rw [upd_ne (ne_of hw6 hd6 (by intro q; cases q))]
          exact e78 _ _ hw6
        · rw [upd_ne (Ne.symm hnol)]
          refine e9 _ _ ?_
          rw [upd_ne (ne_of hl6 hd6 (by intro q; cases q))]
          exact e78 _ _ hl6
        · refine List.Perm.trans ?_ hpm6
          rw [List.append_assoc, List.append_assoc, List.append_assoc]
          refine List.Perm.append_left oi ?_
          exact (List.perm_middle (a := g) (l₁ := li) (l₂ := wt.drop (i + 1))).symm
      · have hno : ¬ ∀ z ∈ g.2.pins, z ∈ c.srcs ++ nms oi := by
          intro hin
          have : (g.2.pins.map fun z => decide (z ∈ c.srcs ++ nms oi)).all id = true := by simpa using hin
          rw [this] at hb
          cases hb
        refine s_app (e7 _ _ hl6) (ev_var rfl) (ev_var rfl) (by rw [List.length_map]; omega) fun H8 e8 => ?_
        have e78 := e7.trans e8
        refine ⟨oi, li ++ [g], _, _, rfl, Ex.mut (e6.trans e78) hl1, ?_, ?_, ?_, ?_, ?_, ht6, by simp; omega, fun q => ?_⟩
        · rw [upd_ne (ne_of hd6 hl6 (by intro q; cases q))]
          exact e78 _ _ hd6
        · rw [upd_ne hnol]
          exact e78 _ _ ho6
        · rw [upd_ne hnwl]
          exact e78 _ _ hw6
        · rw [upd_same, List.map_append]
          rfl
        · rw [List.append_assoc, List.append_assoc, List.singleton_append, ← List.append_assoc]
          exact hpm6
        · rw [List.length_append, List.length_singleton] at q
          obtain ⟨rfl, hall⟩ := hbl (by omega)
          refine ⟨rfl, fun y hy => ?_⟩
          rw [take_snoc hg] at hy
          rcases List.mem_append.mp hy with hy | hy
          · exact hall y hy
          · rw [List.mem_singleton.mp hy]
            exact hno
    · obtain ⟨oi, li, v6, v7, rfl, e6, hd6, ho6, hw6, hl6, hpm6, ht6, hli, hbl⟩ := q
      rw [List.length_map] at hpm6 hli hbl
      rw [List.drop_length, List.append_nil] at hpm6
      have hlt : li.length ≠ wt.length := by
        intro q
        obtain ⟨rfl, hall⟩ := hbl q
        rw [List.take_length] at hall
        have hmem : ∀ g ∈ gs, g ∈ oi ∨ g ∈ wt := fun g hg => List.mem_append.mp (hpm.mem_iff.mpr (hgs.mem_iff.mp hg))
        obtain ⟨g, hg, hz⟩ := topo_go htp (fun z hz => List.mem_append_left _ hz) hmem (fun g hg => List.mem_append_right c.srcs (List.mem_map.mpr ⟨g, hg, rfl⟩)) (by
          cases wt with
          | nil => exact absurd rfl hne
          | cons y r => exact ⟨y, hgs.mem_iff.mpr (hpm.mem_iff.mp (List.mem_append_right _ List.mem_cons_self)), List.mem_cons_self⟩)
        exact hall g hg hz
      refine q_when (b := false) (et_test (ev_is (ev_op (ev_len (ev_var rfl) (sq_of hl6)) (ev_len (ev_var rfl) (sq_of hw6)) (rv_eq rfl)) ?_)) (fun q => nomatch q) fun _ H7 e7 => ?_
      · congr 1
        rw [decide_eq_false_iff_not]
        intro q
        injection q with q
        simp only [List.length_map] at q
        omega
      · refine s_asg (ev_var rfl) fun H8 e8 => ⟨li.length, by omega, oi, li, l, _, _, _, _, rfl, rfl, (e6.trans e7).trans e8, e8 _ _ (e7 _ _ hd6), e8 _ _ (e7 _ _ ho6), e8 _ _ (e7 _ _ hl6), hnol, hpm6, ht6⟩
  · have hwe : wt = [] := by simpa using hb
    subst hwe
    rw [List.append_nil] at hpm
    exact s_ret (v := .ref o) (ev_var rfl) fun H5 e5 => k o H5 ho1 ((e.trans e4).trans e5) ⟨od, e5 _ _ (e4 _ _ hol), hpm, ht⟩
end
/-! ### a circuit made -/
def ExO (x : Addr) (H H' : Hp) : Prop := ∀ a o, a ≠ x → H a = some o → H' a = some o
section
variable {K : PySem.W.Frag} {H H1 H' : Hp} {x a C dx : Addr} {fs : List (Str × V)}
theorem ExO.refl (H : Hp) : ExO x H H := fun _ _ _ h => h
theorem ExO.trans (a : ExO x H H1) (b : ExO x H1 H') : ExO x H H' := fun y o n h => b y o n (a y o n h)
theorem ExO.of (e : Ex H H') : ExO x H H' := fun y o _ h => e y o h
theorem ExO.put {o : HO} : ExO x H (upd H x o) := fun y u n h => by
  rw [upd_ne n]
  exact h
theorem exo_t {xs : List V} (hx : H x = some (.ins C dx fs)) (e : ExO x H H') (h : SqT K H a xs) : SqT K H' a xs := by
  rcases h with (h | ⟨o, h⟩) | h
  · exact .inl (.inl (e _ _ (ne_of h hx fun q => by cases q) h))
  · exact .inl (.inr ⟨o, e _ _ (ne_of h hx fun q => by cases q) h⟩)
  · exact .inr h
theorem exo_l {xs : List V} (hx : H x = some (.ins C dx fs)) (e : ExO x H H') (h : SqL K H a xs) : SqL K H' a xs := by
  rcases h with (h | ⟨o, h⟩) | h
  · exact .inl (.inl (e _ _ (ne_of h hx fun q => by cases q) h))
  · exact .inl (.inr ⟨o, e _ _ (ne_of h hx fun q => by cases q) h⟩)
  · exact .inr h
theorem exo_g {v : V} {g : Gate} (hx : H x = some (.ins C dx fs)) (e : ExO x H H') (h : GateAt K H v g) : GateAt K H' v g := by
  obtain ⟨a, q, h1, h2, h3⟩ := h
  exact ⟨a, q, h1, exo_t hx e h2, exo_t hx e h3⟩
theorem exo_r {v : V} {r : Str × Str} (hx : H x = some (.ins C dx fs)) (e : ExO x H H') (h : RegAt K H v r) : RegAt K H' v r := by
  obtain ⟨a, h1, h2⟩ := h
  exact ⟨a, h1, exo_t hx e h2⟩
theorem noM_of {l : List Str} (h : fs.map (·.1) = l) (hd : ∀ m ∈ meths, m ∉ l) : NoM fs := fun m hm => lookup_none_of (by
  rw [h]
  exact hd m hm)
theorem PartsOf.turn {c : Ck} {ti tr tg to : Addr} (h : PartsOf K H x c dx fs ti tr tg to) (e : Ex H H1) (fs' : List (Str × V)) (l1 : fs'.lookup ("inputs" : Str) = some (V.ref ti)) (l2 : fs'.lookup ("registers" : Str) = some (V.ref tr))
    (l3 : fs'.lookup ("gates" : Str) = some (V.ref tg)) (l4 : fs'.lookup ("outputs" : Str) = some (V.ref to)) (n : NoM fs') : PartsOf K (upd H1 x (.ins (He.ga K "Circuit") dx fs')) x c dx fs' ti tr tg to := by
  have eo : ExO x H (upd H1 x (.ins (He.ga K "Circuit") dx fs')) := (ExO.of e).trans ExO.put
  exact ⟨upd_same, l1, l2, l3, l4, n, exo_t h.ob eo h.si, exo_t h.ob eo h.sr, exo_t h.ob eo h.sg, exo_t h.ob eo h.so, fun p hp => exo_r h.ob eo (h.dr p hp), fun p hp => exo_g h.ob eo (h.dg p hp), h.few⟩
end
def GofAt (K : PySem.W.Frag) (H : Hp) (a : Addr) (c : Ck) : Prop := ∃ dx fs d, H a = some (.ins (He.ga K "Circuit") dx fs) ∧ fs.lookup ("gate_of" : Str) = some (V.ref d) ∧ H d = some (.dK (c.gts.map fun g => ((Sum.inr g.2.nm : Key), g.1)))
structure CkAt (K : PySem.W.Frag) (H : Hp) (a : Addr) (c : Ck) (od : List GV) : Prop where
  parts : PartsAt K H a c
  ord : OrdAt K H a od
  gof : GofAt K H a c
structure CkOk (c : Ck) (od : List GV) : Prop where
  forms : FormsOk c
  names : NamesOk c
  perm : od.Perm c.gts
  topo : Topo c.srcs od
theorem CkAt.mono {K : PySem.W.Frag} {H H' : Hp} {a : Addr} {c : Ck} {od : List GV} (e : Ex H H') (h : CkAt K H a c od) : CkAt K H' a c od := by
  obtain ⟨h1, h2, dx, fs, d, h3, h4, h5⟩ := h
  exact ⟨h1.mono e, h2.mono e, dx, fs, d, e _ _ h3, h4, e _ _ h5⟩
def sp_Circuit___init__ (K : PySem.W.Frag) : Sp := fun vs H Q _ => ∃ (x i r g o : Addr) (c : Ck), vs = [.ref x, .ref i, .ref r, .ref g, .ref o] ∧ (∃ dx, H x = some (.ins (He.ga K "Circuit") dx [])) ∧
  SqL K H i (c.ins.map V.str) ∧ SqL K H r (c.regs.map (·.1)) ∧ SqL K H g (c.gts.map (·.1)) ∧ SqL K H o (c.outs.map V.str) ∧ (∀ p ∈ c.regs, RegAt K H p.1 p.2) ∧ (∀ p ∈ c.gts, GateAt K H p.1 p.2) ∧ Few c ∧ FormsOk c ∧ NamesOk c ∧
  (∃ gs : List GV, gs.Perm c.gts ∧ Topo c.srcs gs) ∧ ∀ H', ExO x H H' → (∃ od, CkAt K H' x c od ∧ CkOk c od) → Q .non H'
section
variable {P : Program} {w : World} {K : PySem.W.Frag} {mg : Str → Option Value} {base : Heap}
theorem ok_Circuit___init__ (T : Tx K mg) (F : DefI K mg "Circuit" (He.ga K "Circuit") "Circuit.__init__" s_Circuit___init__) (g_Circuit_check_forms : C8.Met P w K mg base 3 (He.ga K "Circuit") "check_forms" (sp_Circuit_check_forms K) []) (g_Circuit_check_names : C8.Met P w K mg base 3 (He.ga K "Circuit") "check_names" (sp_Circuit_check_names K) []) (g_Circuit_sorted_gates : C8.Met P w K mg base 2 (He.ga K "Circuit") "sorted_gates" (sp_Circuit_sorted_gates K) []) : C8.Mak P w K mg base 4 "Circuit" (He.ga K "Circuit") (sp_Circuit___init__ K) [] := by
  refine mak_of F sc_Circuit___init__ (fun vs H Q E h => by obtain ⟨_, _, _, _, _, _, rfl, _⟩ := h; rfl) (fun _ _ _ _ _ _ us hl => match us, hl with | [_, _, _, _, _], _ => rfl) (fun f cdv A outer s H vs Q E hr h => ?_)
  obtain ⟨x, i, r, g, o, c, rfl, ⟨dx, hx⟩, hi, hr1, hg, ho, dr, dg, few, forms, names, tp, k⟩ := h
  have hu := hu_of hr
  refine ⟨_, (pss_cons (ps_fld (pv 0) (pe_callTy call_tuple_of (by rfl) T.n_tuple (by decide +kernel) (pa_cons (pv 1) pa_nil)) rfl)
        (pss_cons (ps_fld (pv 0) (pe_callTy call_tuple_of (by rfl) T.n_tuple (by decide +kernel) (pa_cons (pv 2) pa_nil)) rfl)
        (pss_cons (ps_fld (pv 0) (pe_callTy call_tuple_of (by rfl) T.n_tuple (by decide +kernel) (pa_cons (pv 3) pa_nil)) rfl)
        (pss_cons (ps_fld (pv 0) (pe_callTy call_tuple_of (by rfl) T.n_tuple (by decide +kernel) (pa_cons (pv 4) pa_nil)) rfl)
        (pss_cons (ps_expr (C8.pe_mt0 g_Circuit_check_forms hr (by decide) (pv 0)))
        (pss_cons (ps_fld (pv 0) (pe_dc (own := [("gate", 5)]) (g := gName 5) (tt := tYes) rfl sc_Circuit___init__.nd (pi_tup (pe_fld (pv 0) rfl)) (blkOk_by (N := ["self", "inputs", "registers", "gates", "outputs", "gate"]) (sc := defScope s_Circuit___init__) (by decide +kernel)) (fun _ _ _ _ _ => (pg_name (i := 5) sc_Circuit___init__.nd rfl (Or.inl rfl))) (fun _ _ _ _ _ => pts_nil) (fun _ _ _ _ _ => (pe_ix (r := rIxT K) ix_tup (pv 5) pe_int (fun _ _ => rfl))) (fun _ _ _ _ _ => (pv 5))) rfl)
        (pss_cons (ps_expr (C8.pe_mt0 g_Circuit_check_names hr (by decide) (pv 0)))
        (pss_one (ps_fld (pv 0) (C8.pe_mt0 g_Circuit_sorted_gates hr (by decide) (pv 0)) rfl))))))))), ?_⟩
  refine q_fldputF hx T.clCircuit T.na_inputs (by simp) (ev_var rfl) (eu_tupOfV (ev_var rfl) hi) ?_
  rintro ti H1 hn1 e1 ⟨H1', ht1, e1'⟩
  have st1 : SqT K H1 ti (c.ins.map V.str) := st_of (e1' _ _ ht1)
  have x1 := e1 _ _ hx
  have eo1 : ExO x H1 (upd H1 x (.ins (He.ga K "Circuit") dx (putF "inputs" (.ref ti) []))) := ExO.put
  refine q_fldputF upd_same T.clCircuit T.na_registers (show 1 < 1000 by decide) (ev_var rfl) (eu_tupOfV (ev_var rfl) (exo_l x1 eo1 (ex_l e1 hr1))) ?_
  rintro tr H2 hn2 e2 ⟨H2', ht2, e2'⟩
  have st2 : SqT K H2 tr (c.regs.map (·.1)) := st_of (e2' _ _ ht2)
  have x2 := e2 _ _ upd_same
  have eo2 : ExO x H1 (upd H2 x (.ins (He.ga K "Circuit") dx (putF "registers" (.ref tr) (putF "inputs" (.ref ti) [])))) := (eo1.trans (ExO.of e2)).trans ExO.put
  refine q_fldputF upd_same T.clCircuit T.na_gates (show 2 < 1000 by decide) (ev_var rfl) (eu_tupOfV (ev_var rfl) (exo_l x1 eo2 (ex_l e1 hg))) ?_
  rintro tg H3 hn3 e3 ⟨H3', ht3, e3'⟩
  have st3 : SqT K H3 tg (c.gts.map (·.1)) := st_of (e3' _ _ ht3)
  have x3 := e3 _ _ upd_same
  have eo3 : ExO x H1 (upd H3 x (.ins (He.ga K "Circuit") dx (putF "gates" (.ref tg) (putF "registers" (.ref tr) (putF "inputs" (.ref ti) []))))) := (eo2.trans (ExO.of e3)).trans ExO.put
  refine q_fldputF upd_same T.clCircuit T.na_outputs (show 3 < 1000 by decide) (ev_var rfl) (eu_tupOfV (ev_var rfl) (exo_l x1 eo3 (ex_l e1 ho))) ?_
  rintro to H4 hn4 e4 ⟨H4', ht4, e4'⟩
  have st4 : SqT K H4 to (c.outs.map V.str) := st_of (e4' _ _ ht4)
  have x4 := e4 _ _ upd_same
  let fs4 : List (Str × V) := [("inputs", .ref ti), ("registers", .ref tr), ("gates", .ref tg), ("outputs", .ref to)]
  have ef4 : putF "outputs" (.ref to) (putF "gates" (.ref tg) (putF "registers" (.ref tr) (putF "inputs" (.ref ti) []))) = fs4 := by rfl
  rw [ef4]
  have eo4 : ExO x H1 (upd H4 x (.ins (He.ga K "Circuit") dx fs4)) := (eo3.trans (ExO.of e4)).trans ExO.put
  have eo4' : ExO x H (upd H4 x (.ins (He.ga K "Circuit") dx fs4)) := (ExO.of e1).trans eo4
  have p4 : PartsOf K (upd H4 x (.ins (He.ga K "Circuit") dx fs4)) x c dx fs4 ti tr tg to := ⟨upd_same, rfl, rfl, rfl, rfl, noM_of (l := ["inputs", "registers", "gates", "outputs"]) rfl (by decide +kernel), exo_t x1 eo4 st1,
    exo_t x2 (((ExO.put).trans (ExO.of e3)).trans (((ExO.put).trans (ExO.of e4)).trans ExO.put)) st2, exo_t x3 (((ExO.put).trans (ExO.of e4)).trans ExO.put) st3, exo_t x4 ExO.put st4, fun p hp => exo_r hx eo4' (dr p hp), fun p hp => exo_g hx eo4' (dg p hp), few⟩
  generalize upd H4 x (.ins (He.ga K "Circuit") dx fs4) = J4 at p4 eo4' ⊢
  refine q_drop (v := .non) (ev_g (eg_meth0 (ev_var rfl) p4.ob (p4.nom.at "check_forms") mo_V fun H1 e Q E q => ⟨x, c, rfl, ⟨_, _, _, _, _, _, p4.mono e⟩, forms, q⟩)) fun J5 e5 => ?_
  have p5 := p4.mono e5
  have f3 := few.gts
  have ndg : (c.gts.map (·.2.nm)).Nodup := (List.nodup_append.mp names.nd).2.1
  refine q_fldputF p5.ob T.clCircuit T.na_gate_of (show 4 < 1000 by decide) (ev_var rfl) (eg_dcT (kvs := c.gts.map fun g => ((Sum.inr g.2.nm : Key), g.1)) (ev_fld (ev_var rfl) p5.ob T.clCircuit T.na_gates p5.lg) p5.sg (by simp) (by simp; omega) ?_ (fun _ => rfl) fun i y q H1 e hx hy => ?_) ?_
  · rw [List.map_map]
    show (c.gts.map fun g => (Sum.inr g.2.nm : Key)).Nodup
    have := List.Pairwise.map (Sum.inr : Str → Key) (R := fun a b => a ≠ b) (S := fun a b => a ≠ b) (fun a b hab e => hab (Sum.inr.inj e)) ndg
    rw [List.map_map] at this
    exact this
  · obtain ⟨gg, h1, rfl⟩ := map_at hx
    rw [List.getElem?_map, h1] at hy
    cases hy
    obtain ⟨b, q, g1, g2, g3⟩ := (p5.dg gg (List.mem_of_getElem? h1)).mono e
    exact ⟨_, rfl, ev_op (ev_var (by rw [g1]; rfl)) ev_c (rv_ixT g2 rfl), ev_var rfl⟩
  rintro d H6 hn6 e6 ⟨H6', hd6, e6'⟩
  let fs6 : List (Str × V) := [("inputs", .ref ti), ("registers", .ref tr), ("gates", .ref tg), ("outputs", .ref to), ("gate_of", .ref d)]
  have ef6 : putF "gate_of" (.ref d) fs4 = fs6 := by rfl
  rw [ef6]
  have p6 : PartsOf K (upd H6 x (.ins (He.ga K "Circuit") dx fs6)) x c dx fs6 ti tr tg to := p5.turn e6 fs6 rfl rfl rfl rfl (noM_of (l := ["inputs", "registers", "gates", "outputs", "gate_of"]) rfl (by decide +kernel))
  have eo6 : ExO x H (upd H6 x (.ins (He.ga K "Circuit") dx fs6)) := ((eo4'.trans (ExO.of e5)).trans (ExO.of e6)).trans ExO.put
  have d6 : upd H6 x (.ins (He.ga K "Circuit") dx fs6) d = some (.dK (c.gts.map fun g => ((Sum.inr g.2.nm : Key), g.1))) := by
    rw [upd_ne (ne_of (e6' _ _ hd6) (e6 _ _ p5.ob) (by intro q; cases q))]
    exact e6' _ _ hd6
  generalize upd H6 x (.ins (He.ga K "Circuit") dx fs6) = J6 at p6 eo6 d6 ⊢
  refine q_drop (v := .non) (ev_g (eg_meth0 (ev_var rfl) p6.ob (p6.nom.at "check_names") mo_V fun H1 e Q E q => ⟨x, c, rfl, ⟨_, _, _, _, _, _, p6.mono e⟩, names, q⟩)) fun J7 e7 => ?_
  have p7 := p6.mono e7
  refine s_fldputF p7.ob T.clCircuit T.na_order (show 5 < 1000 by decide) (ev_var rfl) (eg_meth0 (ev_var rfl) p7.ob (p7.nom.at "sorted_gates") mo_F fun H1 e Q E q => ⟨x, c, rfl, ⟨_, _, _, _, _, _, p7.mono e⟩, forms, names.nd, tp, q⟩) ?_
  rintro lo H8 hn8 e8 ⟨H8', ⟨od, ho8, hpm, htp⟩, e8'⟩
  let fs8 : List (Str × V) := [("inputs", .ref ti), ("registers", .ref tr), ("gates", .ref tg), ("outputs", .ref to), ("gate_of", .ref d), ("order", .ref lo)]
  have ef8 : putF "order" (.ref lo) fs6 = fs8 := by rfl
  rw [ef8]
  have n8 : NoM fs8 := noM_of (l := ["inputs", "registers", "gates", "outputs", "gate_of", "order"]) rfl (by decide +kernel)
  have p8 : PartsOf K (upd H8 x (.ins (He.ga K "Circuit") dx fs8)) x c dx fs8 ti tr tg to := p7.turn e8 fs8 rfl rfl rfl rfl n8
  have eo8 : ExO x H (upd H8 x (.ins (He.ga K "Circuit") dx fs8)) := ((eo6.trans (ExO.of e7)).trans (ExO.of e8)).trans ExO.put
  refine k _ eo8 ⟨od, ⟨⟨dx, fs8, ti, tr, tg, to, p8⟩, ⟨dx, fs8, lo, upd_same, rfl, n8, sq_of ?_, fun p hp => p8.dg p (hpm.mem_iff.mp hp), by rw [hpm.length_eq]; exact few.gts, fun p hp => few.pins p (hpm.mem_iff.mp hp)⟩, ⟨dx, fs8, d, upd_same, rfl, ?_⟩⟩, ⟨forms, names, hpm, htp⟩⟩
  · rw [upd_ne (ne_of (e8' _ _ ho8) (e8 _ _ p7.ob) (by intro q; cases q))]
    exact e8' _ _ ho8
  · have h9 := e8 _ _ (e7 _ _ d6)
    rw [upd_ne (ne_of h9 (e8 _ _ p7.ob) (by intro q; cases q))]
    exact h9
end
end Pw


namespace Pw
open PySem PySem.Spec PyProof.Rows L2 Evl RZ
section
variable {X : Cx} {pos : Pos}
theorem ip_and : PIp X .BitAnd (ipI fun i j => Builtin.bitAnd i j) := fun pins s σ H x y v u Q I r1 r2 h => iop_and pins s σ H x y v u Q I r1 r2 h
theorem ip_or : PIp X .BitOr (ipI fun i j => Builtin.bitOr i j) := fun pins s σ H x y v u Q I r1 r2 h => iop_or pins s σ H x y v u Q I r1 r2 h
theorem ip_xor : PIp X .BitXor (ipI fun i j => Builtin.bitXor i j) := fun pins s σ H x y v u Q I r1 r2 h => iop_xor pins s σ H x y v u Q I r1 r2 h
/-- X(), X an own exception class without own __init__ -/
theorem pmk_own0 {C : Addr} {bmB : List Value} {B newId initId : String} {x : Str} {p : Pos} (F : ExcBaseFacts B newId initId bmB) (hx : PySem.W.excIn X.K C bmB newId = true) (hm : X.mg x = some (.ref C)) (hk : PySem.W.keepIn X.K (.ref C) = true) (hr : Raises X (.ref C)) (hg : Gl X x)
    (nd : (x == ("__debug__" : Str)) = false := by decide) : PMk X (.Call (.Name x p) [] [] pos) (fun _ H Q => Q (.ref C) none H) := fun pins s σ H Q I h =>
  wpAny_Call_Name_kw (ld_glob I hg hm (PySem.W.callWith_K0 I.kIn hk (by
    obtain ⟨_, _, _, _, _, _, _, _, _, _, _, _, _, _, _, _, _, o, n, i, t⟩ := exc_obj I.kIn hx
    exact wpAny_call_exc_subT F t o n i (fun _ _ made => mk_of I made hr h (I.hok.gone made.new)) (Nat.zero_le _))) nd)
end
section
variable {X : Cx} {kx vx tg iter : Expr} {ifs : List Expr} {scope : Scope} {pos spos py : Pos} {y : Str}
/-- the block of a comprehension, any store -/
abbrev InBlk (X : Cx) (scope : Scope) (p : Cx → Prop) : Prop := ∀ (s : Shared) (H : Hp) (C : Addr) (cl : List (Str × Addr)) (fp : List Addr), p (X.blk s H scope (compEnvC scope cl C X.env) fp)
/-- name = {..: .. for ..} on one line, the name a local -/
theorem ps_setDc {i : Nat} {own : List (Str × Nat)} {wi : TI} {g : TG} {tt : TT} {tk tv : TE} (calm : X.calm = true) (nod : X.N.Nodup) (slot : X.N[i]? = some y) (loc : X.env.scope.names.lookup y = some .local)
    (sw : swapsWith (.DictComp kx vx [⟨tg, iter, ifs, 0⟩] scope pos) (some (.Name y py)) spos.line X.env = pure true) (it : PI X tg iter wi) (ok : BlkOk X.N X.env.scope scope own)
    (bg : InBlk X scope fun Y => PG Y tg g) (bt : InBlk X scope fun Y => PTs Y ifs tt) (bk : InBlk X scope fun Y => PE Y kx tk) (bv : InBlk X scope fun Y => PE Y vx tv) (fs : ∀ v, foldedSetIterable iter X.env v = pure v := by intro _; rfl) :
    PS X (.Assign [.Name y py] (.DictComp kx vx [⟨tg, iter, ifs, 0⟩] scope pos) spos) (tAsg (tDc wi g tt tk tv (own.map (·.2))) (gName i)) where
  run := fun pins s σ H D inv hh => by
    have hh : tDc wi g tt tk tv (own.map (·.2)) σ H (fun v J => gName i v σ J D.nx) := hh
    have core := dc_core (use := some (assign (.Name y py) X.env)) (pos := pos) (pos' := firstIterPos [⟨tg, iter, ifs, 0⟩] pos) (Qf := fun _ s2 => SP X pins D .next s2) calm nod inv it ok bg bt bk bv fs hh fun L C s1 n J inv1 q hns hf => by
      obtain ⟨free0, nL, own1, own2, apart, own3⟩ := hf
      refine wpAny_assign_Name (store_ok2 (v := V.ref L) inv1 nod slot (.inl loc) rfl (fun s2 inv2 hst => ?_) (.inr loc))
      obtain ⟨u, same, hu⟩ := hst
      have nu : C ≠ u := hu.elim (fun e => e ▸ nL) fun hc e => apart y u hc e.symm
      exact ⟨n, hns.sameBut same nu, fun s3 same3 => ⟨_, J, inv2.turned (t' := s2.toks) (fun b o nb e => (same3.2 b nb).trans e) free0 nL own2 apart own3, q⟩⟩
    rw [exec_Assign_Name_used _ _ _ _ sw]
    exact wpAny_bind (wpAny_standAt (wpAny_bind (wpAny_bind (thn core fun _ _ e => wpAny_pure (wpAny_pure e)))))
theorem sw_trueD {gs : List Comprehension} {l : Nat} {env : Env} (kind : env.scope.kind = .function) (loc : env.scope.names.lookup y = some .local) (line : (py.line == pos.line) = true)
    (none_ : (scope.names.any fun (n, k) => n == y && (k == .local || k == .cell)) = false) : swapsWith (.DictComp kx vx gs scope pos) (some (.Name y py)) l env = pure true := by
  have e1 : env.kindOf y = some .local := loc
  have e2 : env.blockKind = .function := by
    unfold Env.blockKind
    rw [kind]
    rfl
  simp only [swapsWith, e1, e2, none_, line, Expr.pos]
  rfl
end
/-! ### zip of a list and a tuple -/
theorem five {p : Addr → Prop} {a b c d e x : Addr} (h : x ∈ [a, b, c, d, e]) (ha : p a) (hb : p b) (hc : p c) (hd : p d) (he : p e) : p x := by
  simp only [List.mem_cons, List.not_mem_nil, or_false] at h
  rcases h with rfl | rfl | rfl | rfl | rfl <;> assumption
theorem nfive {a b c d e x : Addr} (h : x ∉ [a, b, c, d, e]) : x ≠ a ∧ x ≠ b ∧ x ≠ c ∧ x ≠ d ∧ x ≠ e := by
  simpa only [List.mem_cons, List.not_mem_nil, or_false, not_or] using h
/-- the list at a, the tuple at b, item by item -/
def ItzM (K : PySem.W.Frag) (a b : Addr) : It where
  go := fun n H => ∃ (us vs : List V) (u v : V), SqL K H a us ∧ SqT K H b vs ∧ us[n]? = some u ∧ vs[n]? = some v
  yld := fun n H r J => ∃ T u v, r = .ref T ∧ H T = none ∧ J = upd H T (.tup [u, v]) ∧ (∀ us, SqL K H a us → us[n]? = some u) ∧ ∀ vs, SqT K H b vs → vs[n]? = some v
  stop := fun n H => ∃ us vs : List V, SqL K H a us ∧ SqT K H b vs ∧ n ≤ us.length ∧ n ≤ vs.length ∧ (n = us.length ∨ n = vs.length)
structure ZmSt (z TI TO i1 i2 a b : Addr) (n : Nat) (h : Heap) : Prop where
  zip : IsZip h z TI TO .none
  two : IsTupOf2 h TI (.ref i1) (.ref i2)
  out : ∃ u v, IsTupOf2 h TO u v
  il : h.IsListIter i1 a n
  it : h.IsTupleIter i2 b n
section
variable {z TI TO i1 i2 a b : Addr}
theorem ZmSt.keep {n : Nat} {h h' : Heap} (S : ZmSt z TI TO i1 i2 a b n h) (k : ∀ c ∈ [z, TI, TO, i1, i2], ∀ o, h.get? c = some o → h'.get? c = some o) : ZmSt z TI TO i1 i2 a b n h' :=
  ⟨k z (by simp) _ S.zip, k TI (by simp) _ S.two, S.out.imp fun u => Exists.imp fun v e => k TO (by simp) _ e, S.il.at fun o e => k i1 (by simp) o e, S.it.at fun o e => k i2 (by simp) o e⟩
theorem ZmSt.lt {n : Nat} {h : Heap} (S : ZmSt z TI TO i1 i2 a b n h) {c : Addr} (hc : c ∈ [z, TI, TO, i1, i2]) : c < h.objs.size := by
  obtain ⟨_, _, o⟩ := S.out
  obtain ⟨_, l, _⟩ := S.il
  obtain ⟨_, t, _⟩ := S.it
  exact five (p := fun c => c < h.objs.size) hc (Heap.lt_size S.zip) (Heap.lt_size S.two) (Heap.lt_size o) (Heap.lt_size l) (Heap.lt_size t)
theorem sepM (D : ZipSep2 z TI TO i1 i2 [i1, a] [i2, b]) : i1 ≠ z ∧ i2 ≠ z := by
  have p := D.zf1
  have q := D.zf2
  simp only [List.mem_cons, List.not_mem_nil, or_false, not_or] at p q
  exact ⟨Ne.symm p.1, Ne.symm q.1⟩
theorem turn_zipM {P : Program} {w : World} {K : PySem.W.Frag} {elts : List Expr} {kk : Nat} {tpos : Pos} (D : ZipSep2 z TI TO i1 i2 [i1, a] [i2, b]) (na : a ≠ i1) (nb : b ≠ i2) :
    Turn P w K (.Tuple elts kk tpos) (ItzM K a b) [z, TI, TO, i1, i2] z (ZmSt z TI TO i1 i2 a b) where
  mem := List.mem_cons_self
  keep := fun n h h' S k => S.keep k
  self := fun _ _ _ _ _ S q => wpAny_pyIter_zip S.zip q
  obj := fun n h S c hc => by
    obtain ⟨_, _, o⟩ := S.out
    obtain ⟨_, l, _, dl⟩ := S.il
    obtain ⟨_, t, _, dt⟩ := S.it
    exact five (p := fun c => ∃ o, h.get? c = some o ∧ ∀ v, o.data ≠ .cell v) hc ⟨_, S.zip, fun _ e => nomatch e⟩ ⟨_, S.two, fun _ e => nomatch e⟩ ⟨_, o, fun _ e => nomatch e⟩ ⟨_, l, fun _ e => nomatch dl.symm.trans e⟩ ⟨_, t, fun _ e => nomatch dt.symm.trans e⟩
  done := fun X eP eW eK calm n pins s σ H E inv fr S stop => by
    subst eP eW eK
    obtain ⟨us, vs, ql, qt, le1, le2, hend⟩ := stop
    obtain ⟨xs, r1, pl, _⟩ := inv.list ql
    obtain ⟨ys, r2, pt, _⟩ := inv.tuple qt
    have n1 : xs.toArray.size = us.length := by rw [List.size_toArray, r1.length]
    have n2 : ys.toArray.size = vs.length := by rw [List.size_toArray, r2.length]
    obtain ⟨_, _, o⟩ := S.out
    have hh : X.A.in1.handled = none := inv.ok.hd calm
    exact wpAny_pyNext_zipD2_end (i := n) D (Draws.list hh i1 a na xs.toArray) (Draws.tuple hh i2 b nb ys.toArray) S.zip S.two o ⟨S.il, pl.isList⟩ ⟨S.it, pt⟩ (by omega) (by omega) (by omega) fun h' tk old =>
      ⟨rfl, inv.turnedL (t' := tk) (ch := [z, TI, TO, i1, i2]) (fun c o nc e => by
        obtain ⟨m1, _, m3, m4, m5⟩ := nfive nc
        exact old c o m1 m3 m4 m5 e) fr⟩
  item := fun X eP eW eK calm n pins s σ H E inv fr S go => by
    subst eP eW eK
    obtain ⟨us, vs, u, v, ql, qt, hu, hv⟩ := go
    obtain ⟨xs, r1, pl, _⟩ := inv.list ql
    obtain ⟨ys, r2, pt, _⟩ := inv.tuple qt
    obtain ⟨x, hx, rx⟩ := r1.get hu
    obtain ⟨y, hy, ry⟩ := r2.get hv
    obtain ⟨nz1, nz2⟩ := sepM D
    obtain ⟨_, _, o⟩ := S.out
    have hh : X.A.in1.handled = none := inv.ok.hd calm
    have l1 : n < xs.toArray.size := by simpa only [List.size_toArray] using (List.getElem?_eq_some_iff.mp hx).1
    have l2 : n < ys.toArray.size := by simpa only [List.size_toArray] using (List.getElem?_eq_some_iff.mp hy).1
    refine wpAny_pyNext_zipD2_item D (Draws.list hh i1 a na xs.toArray) (Draws.tuple hh i2 b nb ys.toArray) S.zip S.two o ⟨S.il, pl.isList⟩ ⟨S.it, pt⟩ l1 l2 fun x' y' h1 tk ex ey z1 o1 s1 s2 new _ old => ?_
    have ex : xs[n]? = some x' := by simpa using ex
    have ey : ys[n]? = some y' := by simpa using ey
    cases hx.symm.trans ex
    cases hy.symm.trans ey
    refine ⟨_, rfl, wpAny_letOwnedTupleGo_zip (s := { s with heap := h1, toks := tk }) z1 fun h2 z2 same => ?_⟩
    have made := (same.2 _ (Nat.ne_of_gt (S.lt (c := z) List.mem_cons_self))).trans new
    have fresh := inv.hok.fresh (Nat.le_refl s.heap.objs.size)
    have inv2 : Inv X pins σ (upd H s.heap.objs.size (.tup [u, v])) { s with heap := h2, toks := tk } := inv.turnedNew (t' := tk) (ch := [z, TI, TO, i1, i2]) (fun c o nc e => by
      obtain ⟨m1, _, m3, m4, m5⟩ := nfive nc
      exact (same.2 c m1).trans (old c o m1 m3 m4 m5 e)) fr (Nat.le_refl _) ⟨sz_of (show 2 ≤ 100000 by omega), [x, y], .cons rx (.cons ry .nil), _, made, rfl, _, rfl⟩
    exact ⟨.ref s.heap.objs.size, _, inv2, rfl, ⟨_, u, v, rfl, fresh, rfl, fun ws hw => inv.list_inj hw ql ▸ hu, fun ws hw => inv.tuple_inj hw qt ▸ hv⟩,
      ⟨z2, (same.2 _ D.TIz).trans (old _ _ D.TIz D.TITO D.TIi1 D.TIi2 S.two), ⟨x, y, (same.2 _ D.TOz).trans o1⟩, s1.1.at fun w e => (same.2 _ nz1).trans e, s2.1.at fun w e => (same.2 _ nz2).trans e⟩,
      fun c hc => (upd_ne (Nat.ne_of_lt (S.lt hc))).trans (fr c hc).1⟩
end
def iZipM (K : PySem.W.Frag) (ta : TA) : TI := fun σ H R => ta σ H fun vs H1 => ∃ a b xs ys, vs = [.ref a, .ref b] ∧ SqL K H1 a xs ∧ SqT K H1 b ys ∧ R (ItzM K a b) H1
theorem pi_zipM {X : Cx} {e e2 : Expr} {ta : TA} {p pos tpos : Pos} {elts : List Expr} {kk : Nat} (glob : Gl X "zip") (none_ : X.mg "zip" = none) (args : PA X [e, e2] ta)
    (star : starEach [e, e2] X.env = (false, eval e X.env) :: starEach [e2] X.env := by rfl) (plain : (backTo pos (starEach [e2] X.env)).any (·.1) = false := by rfl) : PI X (.Tuple elts kk tpos) (.Call (.Name "zip" p) [e, e2] [] pos) (iZipM X.K ta) where
  run := fun pins s σ H R inv hh => Call_ (ld_blt inv glob none_ PyProof.Rows.boot_zip (PyProof.Rows.callWith_type1 (thn (args.run pos pins s σ H _ inv hh) fun us s1 hs => by
    obtain ⟨_, J, inv1, rel, a, b, xs, ys, rfl, ql, qt, q⟩ := hs
    obtain ⟨u1, u2, rfl, ra, rb⟩ := vals2 rel
    cases (show u1 = Value.ref a from ra)
    cases (show u2 = Value.ref b from rb)
    obtain ⟨is, _, pl, _⟩ := inv1.list ql
    obtain ⟨js, _, pt, _⟩ := inv1.tuple qt
    obtain ⟨_, ob, _⟩ := id pt
    generalize hN : s1.heap.objs.size = N
    have below1 : ∀ c ∈ [a], c < N := fun c hc => by rw [List.mem_singleton.mp hc, ← hN]; exact pl.lt
    have below2 : ∀ c ∈ [b], c < N := fun c hc => by rw [List.mem_singleton.mp hc, ← hN]; exact Heap.lt_size ob
    refine zip_begins2 (begins_list a is.toArray) (begins_tuple b js.toArray) pl.isList pt fun h' oz ot oo l1 l2 _ kept => ?_
    rw [hN] at oz ot oo l1 l2 ⊢
    have free : ∀ k, FpOk X pins J (N + k) := fun k => inv1.fpOk (by rw [hN]; exact Nat.le_add_right _ _) (inv1.hok.fresh (by rw [hN]; exact Nat.le_add_right _ _))
    exact wpAny_pyIter_zip oz ⟨N + 4, [N + 4, N + 2, N + 3, N, N + 1], _, _, J, rfl, inv1.kept (t' := s1.toks) kept, turn_zipM (zip_sep2 below1 below2) (Nat.ne_of_lt (below1 a List.mem_cons_self)) (Nat.ne_of_lt (Nat.lt_succ_of_lt (below2 b List.mem_cons_self))), ⟨oz, ot, ⟨_, _, oo⟩, ⟨_, l1, rfl, rfl⟩, ⟨_, l2, rfl, rfl⟩⟩, fun c hc => five (p := FpOk X pins J) hc (free 4) (free 2) (free 3) (free 0) (free 1), q⟩) star plain))
theorem walk_zipM {K : PySem.W.Frag} {a b : Addr} {us vs : List V} (len : us.length = vs.length) : Walk (ItzM K a b) us.length (fun H => SqL K H a us ∧ SqT K H b vs) (YPair (fun n => us[n]?) (fun n => vs[n]?)) :=
  ⟨fun n _ lt q => ⟨us, vs, us[n], vs[n]'(len ▸ lt), q.1, q.2, List.getElem?_eq_getElem lt, List.getElem?_eq_getElem (len ▸ lt)⟩, fun _ q => ⟨us, vs, q.1, q.2, Nat.le_refl _, Nat.le_of_eq len, .inl rfl⟩,
    fun n _ _ _ _ q ⟨T, u, v, e1, e2, e3, hu, hv⟩ => ⟨T, u, v, e1, e2, e3, hu us q.1, hv vs q.2⟩⟩
section
variable {K : PySem.W.Frag} {σ : L2.St} {H H' : Hp} {te te2 : TE} {D : Ends} {tu tz : TS}
theorem s_forZipM {l2 : Addr} {xs ys : List V} {a b : Nat} (h : EvL te σ H xs) (h2 : Ev te2 σ H (.ref l2)) (hy : SqT K H l2 ys) (hlen : xs.length = ys.length) (Pv : Addr → Nat → L2.St → Hp → Prop) (h0 : ∀ p H1, H p = none → Ex H H1 → H1 p = some (.lst xs) → Pv p 0 σ H1) (hl : ∀ p i σ' H', i ≤ xs.length → Pv p i σ' H' → SqL K H' p xs ∧ SqT K H' l2 ys)
    (hs : ∀ p (i : Nat) x y σ' H' H1, xs[i]? = some x → ys[i]? = some y → Pv p i σ' H' → Ex H' H1 → tu { D with nx := Pv p (i + 1), ct := Pv p (i + 1), bk := D.nx } ((σ'.set a (some x)).set b (some y)) H1) (hd : ∀ p σ' H', Pv p xs.length σ' H' → D.nx σ' H') :
    tFor (iZipM K (tCons te (tCons te2 tNil))) (gTup K 2 (gCons (gName a) (gCons (gName b) gNil))) tu D σ H := h H (Ex.refl H) _ fun p H1 hp e1 h1 => h2 H1 e1 _ fun H2 e2 => ⟨p, l2, xs, ys, rfl, sq_of (e2 _ _ h1), ex_t (e1.trans e2) hy,
  for_it (walk_zipM (K := K) (a := p) (b := l2) hlen) (Pv p) (h0 p H2 hp (e1.trans e2) (e2 _ _ h1)) (hl p) (fun i v σ' H' H3 hi q y => by
    obtain ⟨T, x, y, rfl, hT, rfl, ex, ey⟩ := y
    exact ⟨T, [x, y], rfl, .inl (.inl upd_same), rfl, x, [y], rfl, y, [], rfl, rfl, hs p i x y σ' H' _ ex ey q (Ex.new hT)⟩) (hd p)⟩
theorem q_forZipM {l2 : Addr} {xs ys : List V} {a b : Nat} (h : EvL te σ H xs) (h2 : Ev te2 σ H (.ref l2)) (hy : SqT K H l2 ys) (hlen : xs.length = ys.length) (Pv : Addr → Nat → L2.St → Hp → Prop) (h0 : ∀ p H1, H p = none → Ex H H1 → H1 p = some (.lst xs) → Pv p 0 σ H1) (hl : ∀ p i σ' H', i ≤ xs.length → Pv p i σ' H' → SqL K H' p xs ∧ SqT K H' l2 ys)
    (hs : ∀ p (i : Nat) x y σ' H' H1, xs[i]? = some x → ys[i]? = some y → Pv p i σ' H' → Ex H' H1 → tu { D with nx := Pv p (i + 1), ct := Pv p (i + 1), bk := tz D } ((σ'.set a (some x)).set b (some y)) H1) (hd : ∀ p σ' H', Pv p xs.length σ' H' → tz D σ' H') :
    tSeq (tFor (iZipM K (tCons te (tCons te2 tNil))) (gTup K 2 (gCons (gName a) (gCons (gName b) gNil))) tu) tz D σ H := s_forZipM (D := { D with nx := tz D }) h h2 hy hlen Pv h0 hl hs hd
end
end Pw

namespace Pw
open PySem PySem.Spec PyProof.Rows L2 Evl
/-! ### versions -/
inductive Ver
  | non
  | stem (z : Str) (b : Int)
  | pin (z : Str) (i : Nat) (b : Int)
  | short (x y k : Str)
def Ver.vs : Ver → List V
  | .non => []
  | .stem z b => [.str "stem", .str z, .int b]
  | .pin z i b => [.str "pin", .str z, .int (i : Int), .int b]
  | .short x y k => [.str "short", .str x, .str y, .str k]
def Ver.ds : Ver → List PyData
  | .non => []
  | .stem z b => [.str "stem", .str z, .int b]
  | .pin z i b => [.str "pin", .str z, .int (i : Int), .int b]
  | .short x y k => [.str "short", .str x, .str y, .str k]
def VerAt (K : PySem.W.Frag) (H : Hp) (v : V) (ver : Ver) : Prop := (ver = .non ∧ v = .non) ∨ (ver ≠ .non ∧ ∃ p, v = .ref p ∧ SqT K H p ver.vs)
def Ver.Ok (c : Ck) (od : List GV) : Ver → Prop
  | .non => True
  | .stem z b => z ∈ c.lines ∧ bitB b = true
  | .pin z i b => (∃ g ∈ c.gts, g.2.nm = z ∧ i < g.2.pins.length) ∧ bitB b = true
  | .short x y k => x ∈ c.lines ∧ y ∈ c.lines ∧ x.cps.toList < y.cps.toList ∧ x ∉ abv od.reverse [y] ∧ y ∉ abv od.reverse [x] ∧ (k = "and" ∨ k = "or")
theorem VerAt.mono {K : PySem.W.Frag} {H H' : Hp} {v : V} {ver : Ver} (e : Ex H H') (h : VerAt K H v ver) : VerAt K H' v ver := by
  rcases h with h | ⟨h1, p, h2, h3⟩
  · exact .inl h
  · exact .inr ⟨h1, p, h2, ex_t e h3⟩
theorem VerAt.monoT {K : PySem.W.Frag} {H H' : Hp} {v : V} {ver : Ver} (e : ExT H H') (h : VerAt K H v ver) : VerAt K H' v ver := by
  rcases h with h | ⟨h1, p, h2, h3⟩
  · exact .inl h
  · exact .inr ⟨h1, p, h2, ext_t e h3⟩
theorem VerAt.ref {K : PySem.W.Frag} {H : Hp} {v : V} {ver : Ver} (h : VerAt K H v ver) (n : ver ≠ .non) : ∃ p, v = .ref p ∧ SqT K H p ver.vs := by
  rcases h with h | ⟨h1, h2⟩
  · exact absurd h.1 n
  · exact h2
theorem inV_str (z : Str) : ∀ l : List Str, inV (.str z) (l.map V.str) = decide (z ∈ l)
  | [] => rfl
  | x :: l => by
    have := inV_str z l
    unfold inV at this ⊢
    rw [List.map_cons, List.any_cons, this]
    show (x == z || decide (z ∈ l)) = decide (z ∈ x :: l)
    rw [Bool.eq_iff_iff]
    simp only [Bool.or_eq_true, beq_iff_eq, decide_eq_true_eq, List.mem_cons]
    exact or_congr_left eq_comm
theorem flat_str : ∀ l : List Str, (l.map V.str).all flatV = true := fun l => by
  rw [List.all_map]
  exact List.all_eq_true.mpr fun _ _ => rfl
theorem lines_U {c : Ck} (h : FormsOk c) : ∀ z ∈ c.lines, z ∈ U := by
  intro z hz
  simp only [Ck.lines, Ck.srcs, List.mem_append, List.mem_map] at hz
  rcases hz with (hz | ⟨r, hr, rfl⟩) | ⟨g, hg, rfl⟩
  · exact h.io z (List.mem_append_left _ hz)
  · exact (h.rg r hr).1
  · exact (h.gt g hg).1
theorem valV_gof {gts : List GV} (nd : (gts.map (·.2.nm)).Nodup) {g : GV} (hg : g ∈ gts) : valV (gts.map fun g => ((Sum.inr g.2.nm : Key), g.1)) (.inr g.2.nm) = some g.1 := by
  induction gts with
  | nil => cases hg
  | cons x r ih =>
    rw [List.map_cons]
    rw [List.map_cons, List.nodup_cons] at nd
    rcases List.mem_cons.mp hg with rfl | hg
    · exact valV_pos rfl
    · rw [valV_neg]
      · exact ih nd.2 hg
      · intro q
        injection q with q
        exact nd.1 (List.mem_map.mpr ⟨g, hg, q.symm⟩)
def VShp (ver : Ver) : Prop := ∀ d ∈ ver.ds, Sh 1 d
theorem ver_shp {c : Ck} {od : List GV} {ver : Ver} (f : FormsOk c) (h : ver.Ok c od) : VShp ver := by
  intro d hd
  have hU := lines_U f
  cases ver with
  | non => cases hd
  | stem z b =>
    simp only [Ver.ds, List.mem_cons, List.not_mem_nil, or_false] at hd
    rcases hd with rfl | rfl | rfl
    · exact sh_str (by decide +kernel)
    · exact sh_str (U_str _ (hU _ h.1))
    · exact sh_int _
  | pin z i b =>
    simp only [Ver.ds, List.mem_cons, List.not_mem_nil, or_false] at hd
    obtain ⟨⟨g, hg, rfl, _⟩, _⟩ := h
    rcases hd with rfl | rfl | rfl | rfl
    · exact sh_str (by decide +kernel)
    · exact sh_str (U_str _ (f.gt g hg).1)
    · exact sh_int _
    · exact sh_int _
  | short x y k =>
    simp only [Ver.ds, List.mem_cons, List.not_mem_nil, or_false] at hd
    obtain ⟨h1, h2, _, _, _, h3⟩ := h
    rcases hd with rfl | rfl | rfl | rfl
    · exact sh_str (by decide +kernel)
    · exact sh_str (U_str _ (hU _ h1))
    · exact sh_str (U_str _ (hU _ h2))
    · rcases h3 with rfl | rfl <;> exact sh_str (by decide +kernel)
theorem ver_ds_sh {c : Ck} {od : List GV} {ver : Ver} (f : FormsOk c) (h : ver.Ok c od) : Sh 2 (.tuple ver.ds) := sh_tup (ver_shp f h)
theorem ver_dp {K : PySem.W.Frag} {H : Hp} {p : Addr} {ver : Ver} (h : SqT K H p ver.vs) : Dp K H (.ref p) (.tuple ver.ds) := by
  refine .tup h ?_
  cases ver with
  | non => exact .nil
  | stem z b => exact .cons (.str _) (.cons (.str _) (.cons (.int _) .nil))
  | pin z i b => exact .cons (.str _) (.cons (.str _) (.cons (.int _) (.cons (.int _) .nil)))
  | short x y k => exact .cons (.str _) (.cons (.str _) (.cons (.str _) (.cons (.str _) .nil)))
theorem ver_ne {ver : Ver} (n : ver ≠ .non) : PyData.eqv (.tuple ver.ds) (.tuple []) = false := by
  cases ver with
  | non => exact absurd rfl n
  | stem z b => rfl
  | pin z i b => rfl
  | short x y k => rfl
section
variable {K : PySem.W.Frag} {σ : L2.St} {H H' : Hp} {td ty tl tk tv ta : TE} {j : Nat} {vs : List Nat}
theorem ev_dninF {kvs : List (Key × V)} {z : Str} {b : Bool} (h2 : Ev ty σ H (.str z)) (h : EvG td σ H (RetF fun p H2 => H2 p = some (.dK kvs))) (hv : (!(valV kvs (.inr z)).isSome) = b) : Ev (tDNotIn ty td) σ H (.bl b) := fun H1 e Q q =>
  h2 H1 e _ fun H2 e2 => h H2 (e.trans e2) _ fun p H3 hp e3 h3 => ⟨p, _, rfl, dget_of (.inl h3), by rw [hv]; exact q H3 (e2.trans e3)⟩
theorem rv_geS {x y : Str} : RV (fun x y H Q => ∃ i j, x = .str i ∧ y = .str j ∧ Q (.bl (!decide (i.cps.toList < j.cps.toList))) H) (.str x) (.str y) H (.bl (!decide (x.cps.toList < y.cps.toList))) := fun H1 _ _ q => ⟨x, y, rfl, rfl, q H1 (Ex.refl H1)⟩
end
structure CkUp (K : PySem.W.Frag) (H : Hp) (a : Addr) (c : Ck) (od : List GV) : Prop where
  at_ : CkAt K H a c od
  ok : CkOk c od
theorem CkUp.mono {K : PySem.W.Frag} {H H' : Hp} {a : Addr} {c : Ck} {od : List GV} (e : Ex H H') (h : CkUp K H a c od) : CkUp K H' a c od := ⟨h.1.mono e, h.2⟩
def sp_is_stem (K : PySem.W.Frag) : Sp := fun vs H Q _ => ∃ (a : Addr) (v : V) (c : Ck) (od : List GV) (z : Str) (b : Int), vs = [.ref a, v] ∧ CkUp K H a c od ∧ VerAt K H v (.stem z b) ∧ Ver.Ok c od (.stem z b) ∧ RetV (.bl true) H Q
def sp_is_pin (K : PySem.W.Frag) : Sp := fun vs H Q _ => ∃ (a : Addr) (v : V) (c : Ck) (od : List GV) (z : Str) (i : Nat) (b : Int), vs = [.ref a, v] ∧ CkUp K H a c od ∧ VerAt K H v (.pin z i b) ∧ Ver.Ok c od (.pin z i b) ∧ RetV (.bl true) H Q
def sp_is_short (K : PySem.W.Frag) : Sp := fun vs H Q _ => ∃ (a : Addr) (v : V) (c : Ck) (od : List GV) (x y k : Str), vs = [.ref a, v] ∧ CkUp K H a c od ∧ VerAt K H v (.short x y k) ∧ Ver.Ok c od (.short x y k) ∧ RetV (.bl true) H Q
def sp_is_break (K : PySem.W.Frag) : Sp := fun vs H Q _ => ∃ (a : Addr) (v : V) (c : Ck) (od : List GV) (ver : Ver), vs = [.ref a, v] ∧ CkUp K H a c od ∧ VerAt K H v ver ∧ ver ≠ .non ∧ ver.Ok c od ∧ RetV (.bl true) H Q
def sp_check_version (K : PySem.W.Frag) : Sp := fun vs H Q _ => ∃ (a : Addr) (v : V) (c : Ck) (od : List GV) (ver : Ver), vs = [.ref a, v] ∧ CkUp K H a c od ∧ VerAt K H v ver ∧ ver.Ok c od ∧ RetV .non H Q
section
variable {P : Program} {w : World} {K : PySem.W.Frag} {mg : Str → Option Value} {base : Heap}
theorem ok_is_stem (T : Tx K mg) (F : DefF K mg "is_stem" s_is_stem) (g_Circuit_lines : C8.Met P w K mg base 2 (He.ga K "Circuit") "lines" (sp_Circuit_lines K) []) (g_is_bit : C8.Cal P w K mg base 2 "is_bit" (sp_is_bit K) []) : C8.Cal P w K mg base 3 "is_stem" (sp_is_stem K) [] := by
  refine cal_of F sc_is_stem (fun vs H Q E h => by obtain ⟨_, _, _, _, _, _, rfl, _⟩ := h; rfl) (fun _ _ _ _ _ _ us hl => match us, hl with | [_, _], _ => rfl) (fun f cdv A outer s H vs Q E hr h => ?_)
  obtain ⟨a, v, c, od, z, b, rfl, hc, hv, ok, k⟩ := h
  have hu := hu_of hr
  refine ⟨_, (pss_one (ps_ret (pe_and (pe_cmpR op_eq (pe_callB call_len_seq (by rfl) T.n_len PySem.boot_len (pa_cons (pv 1) pa_nil)) pe_int (nomark _)) (pe_and (pe_cmpR op_in_seq (pe_ix ix_tup (pv 1) pe_int (fun _ _ => rfl)) (C8.pe_mt0 g_Circuit_lines hr (by decide) (pv 0)) (by rfl)) (pe_one (C8.pe_c g_is_bit hr (by decide) rfl (pa_cons (pe_ix ix_tup (pv 1) pe_int (fun _ _ => rfl)) pa_nil))))))), ?_⟩
  obtain ⟨p, rfl, hs⟩ := hv.ref (fun q => by cases q)
  refine s_ret (ev_is (ev_andV (ev_op (ev_lenT (ev_var rfl) hs) ev_c (rv_eq rfl)) fun _ => ev_andV (ev_opL (ev_op (ev_var rfl) ev_c (rv_ixT hs rfl)) (eg_lines (ev_var rfl) hc.at_.parts) fun q H1 hq e => rv_isL (sq_of hq) rfl (flat_str _)) fun _ => ev_g (eg_call (ea_cons (ev_op (ev_var rfl) ev_c (rv_ixT hs rfl)) ea_nil) mo_V fun H1 e Q E q => ⟨b, rfl, q⟩)) ?_) k
  rw [inV_str, ok.2, decide_eq_true ok.1]
  rfl
theorem ok_is_pin (T : Tx K mg) (F : DefF K mg "is_pin" s_is_pin) (g_is_bit : C8.Cal P w K mg base 2 "is_bit" (sp_is_bit K) []) (g_is_integer : C8.Cal P w K mg base 1 "is_integer" (sp_is_integer K) []) : C8.Cal P w K mg base 3 "is_pin" (sp_is_pin K) [] := by
  refine cal_of F sc_is_pin (fun vs H Q E h => by obtain ⟨_, _, _, _, _, _, _, rfl, _⟩ := h; rfl) (fun _ _ _ _ _ _ us hl => match us, hl with | [_, _], _ => rfl) (fun f cdv A outer s H vs Q E hr h => ?_)
  obtain ⟨a, v, c, od, z, i, b, rfl, hc, hv, ok, k⟩ := h
  have hu := hu_of hr
  refine ⟨_, (pss_cons (ps_if (PW.pt (pw_or (pt_cmpR op_ne (pe_callB call_len_seq (by rfl) T.n_len PySem.boot_len (pa_cons (pv 1) pa_nil)) pe_int (nomark _)) (pw_or (pt_not (pt_val (pe_callB call_isi (by rfl) T.n_isinstance (by decide +kernel) (pa_cons (pe_ix ix_tup (pv 1) pe_int (fun _ _ => rfl)) (pa_cons (pe_bltn (v := .ty "str") (by rfl) T.n_str (by decide +kernel) rfl) pa_nil))))) (pw_or (pt_cmp (pc_dnotin hu (pe_ix ix_tup (pv 1) pe_int (fun _ _ => rfl)) (pe_fld (pv 0) rfl))) (pw_or1 (pt_not (pt_val (C8.pe_c g_is_bit hr (by decide) rfl (pa_cons (pe_ix ix_tup (pv 1) pe_int (fun _ _ => rfl)) pa_nil)))))))))
          (pss_one (ps_ret pe_bl))
          pss_nil)
        (pss_one (ps_ret (C8.pe_c g_is_integer hr (by decide) rfl (pa_cons (pe_ix ix_tup (pv 1) pe_int (fun _ _ => rfl)) (pa_cons pe_int (pa_cons (pe_op op_sub (pe_callB call_len_seq (by rfl) T.n_len PySem.boot_len (pa_cons (pe_ix ix_tup (pe_dget hu (pe_fld (pv 0) rfl) (pe_ix ix_tup (pv 1) pe_int (fun _ _ => rfl)) (fun _ _ => rfl)) pe_int (fun _ _ => rfl)) pa_nil)) pe_int) pa_nil))))))), ?_⟩
  obtain ⟨p, rfl, hs⟩ := hv.ref (fun q => by cases q)
  obtain ⟨⟨g, hg, rfl, hi⟩, hb⟩ := ok
  obtain ⟨dx, fs, d, ho, hl, hd⟩ := hc.at_.gof
  have nd : (c.gts.map (·.2.nm)).Nodup := (List.nodup_append.mp hc.ok.names.nd).2.1
  have hval := valV_gof nd hg
  obtain ⟨dx2, fs2, ti, tr, tg, to, hp⟩ := id hc.at_.parts
  obtain ⟨ag, q, h1, h2, h3⟩ := hp.dg g hg
  refine q_when (b := false) (et_or (a := false) (et_test (ev_is (ev_op (ev_lenT (ev_var rfl) hs) ev_c (rv_ne rfl)) rfl)) fun _ => et_or (a := false) (et_not (a := true) (et_isi (ev_op (ev_var rfl) ev_c (rv_ixT hs rfl)) (.base (.str _)) (by decide +kernel))) fun _ =>
    et_or (a := false) (et_test (ev_dnin (ev_op (ev_var rfl) ev_c (rv_ixT hs rfl)) (ev_fld (ev_var rfl) ho T.clCircuit T.na_gate_of hl) (.inl hd) (by rw [hval]; rfl))) fun _ => et_not (a := true) (et_B (ev_is (ev_g (eg_call (ea_cons (ev_op (ev_var rfl) ev_c (rv_ixT hs rfl)) ea_nil) mo_V fun H1 e Q E q => ⟨b, rfl, q⟩)) (by rw [hb])))) (fun q => nomatch q) fun _ H1 e1 => ?_
  refine s_ret (ev_is (ev_g (eg_call (ea_cons (ev_op (ev_var rfl) ev_c (rv_ixT (ex_t e1 hs) rfl)) (ea_cons ev_c (ea_cons (ev_op (ev_lenT (ev_op (ev_dget (ev_fld (ev_var rfl) (e1 _ _ ho) T.clCircuit T.na_gate_of hl) (ev_op (ev_var rfl) ev_c (rv_ixT (ex_t e1 hs) rfl)) (.inl (e1 _ _ hd)) (by rw [hval, h1])) ev_c (rv_ixT (ex_t e1 h2) rfl)) (ex_t e1 h3)) ev_c rv_I0) ea_nil))) mo_V fun H1 e Q E q => ⟨(i : Int), 0, _, rfl, q⟩)) ?_) fun H2 e2 => k H2 (e1.trans e2)
  rw [List.length_map]
  congr 1
  rw [Bool.and_eq_true, decide_eq_true_eq, decide_eq_true_eq]
  omega
theorem ok_is_short (T : Tx K mg) (F : DefF K mg "is_short" s_is_short) (g_Circuit_above : C8.Met P w K mg base 1 (He.ga K "Circuit") "above" (sp_Circuit_above K) []) (g_Circuit_lines : C8.Met P w K mg base 2 (He.ga K "Circuit") "lines" (sp_Circuit_lines K) []) : C8.Cal P w K mg base 3 "is_short" (sp_is_short K) [] := by
  refine cal_of F sc_is_short (fun vs H Q E h => by obtain ⟨_, _, _, _, _, _, _, rfl, _⟩ := h; rfl) (fun _ _ _ _ _ _ us hl => match us, hl with | [_, _], _ => rfl) (fun f cdv A outer s H vs Q E hr h => ?_)
  obtain ⟨a, v, c, od, x, y, kd, rfl, hc, hv, ok, k⟩ := h
  have hu := hu_of hr
  refine ⟨_, (pss_cons (ps_if (PW.pt (pw_or (pt_cmpR op_ne (pe_callB call_len_seq (by rfl) T.n_len PySem.boot_len (pa_cons (pv 1) pa_nil)) pe_int (nomark _)) (pw_or1 (pt_cmpR op_notIn_seq (pe_ix ix_tup (pv 1) pe_int (fun _ _ => rfl)) (pe_tup (pa_cons pe_str (pa_cons pe_str pa_nil))) (by rfl)))))
          (pss_one (ps_ret pe_bl))
          pss_nil)
        (pss_cons (ps_set (i := 2) sc_is_short.nd rfl (Or.inl rfl) (C8.pe_mt0 g_Circuit_lines hr (by decide) (pv 0)))
        (pss_cons (ps_if (PW.pt (pw_or (pt_cmpR op_notIn_seq (pe_ix ix_tup (pv 1) pe_int (fun _ _ => rfl)) (pv 2) (by rfl)) (pw_or (pt_cmpR op_notIn_seq (pe_ix ix_tup (pv 1) pe_int (fun _ _ => rfl)) (pv 2) (by rfl)) (pw_or1 (pt_cmpR op_ge_str (pe_ix ix_tup (pv 1) pe_int (fun _ _ => rfl)) (pe_ix ix_tup (pv 1) pe_int (fun _ _ => rfl)) (nomark _))))))
          (pss_one (ps_ret pe_bl))
          pss_nil)
        (pss_one (ps_ret (pe_and (pe_cmp (pc_dnotin hu (pe_ix ix_tup (pv 1) pe_int (fun _ _ => rfl)) (C8.pe_mt g_Circuit_above hr (by decide) (pv 0) (pa_cons (pe_ix ix_tup (pv 1) pe_int (fun _ _ => rfl)) pa_nil)))) (pe_one (pe_cmp (pc_dnotin hu (pe_ix ix_tup (pv 1) pe_int (fun _ _ => rfl)) (C8.pe_mt g_Circuit_above hr (by decide) (pv 0) (pa_cons (pe_ix ix_tup (pv 1) pe_int (fun _ _ => rfl)) pa_nil))))))))))), ?_⟩
  obtain ⟨p, rfl, hs⟩ := hv.ref (fun q => by cases q)
  obtain ⟨hx, hy, hlt, hxy, hyx, hkd⟩ := ok
  refine q_when (b := false) (et_or (a := false) (et_test (ev_is (ev_op (ev_lenT (ev_var rfl) hs) ev_c (rv_ne rfl)) rfl)) fun _ => et_niU (ev_op (ev_var rfl) ev_c (rv_ixT hs rfl)) (ea_cons ev_c (ea_cons ev_c ea_nil)) (by decide) rfl rfl (by rcases hkd with rfl | rfl <;> decide +kernel)) (fun q => nomatch q) fun _ H1 e1 => ?_
  refine q_asgL (eg_lines (ev_var rfl) (hc.mono e1).at_.parts) fun l H2 hl e2 hlq => ?_
  have e12 := e1.trans e2
  have hs2 := ex_t e12 hs
  refine q_when (b := false) (et_or (a := false) (et_test (ev_is (ev_op (ev_op (ev_var rfl) ev_c (rv_ixT hs2 rfl)) (ev_var rfl) (rv_niL (sq_of hlq) rfl (flat_str _))) (by rw [inV_str, decide_eq_true hx]; rfl))) fun _ => et_or (a := false) (et_test (ev_is (ev_op (ev_op (ev_var rfl) ev_c (rv_ixT hs2 rfl)) (ev_var rfl) (rv_niL (sq_of hlq) rfl (flat_str _))) (by rw [inV_str, decide_eq_true hy]; rfl))) fun _ =>
    et_test (ev_is (ev_op (ev_op (ev_var rfl) ev_c (rv_ixT hs2 rfl)) (ev_op (ev_var rfl) ev_c (rv_ixT hs2 rfl)) rv_geS) (by rw [decide_eq_true hlt]; rfl))) (fun q => nomatch q) fun _ H3 e3 => ?_
  have hs3 := ex_t e3 hs2
  have e13 := e12.trans e3
  refine s_ret (ev_is (ev_andV (a := true) (b := true) (ev_dninF (ev_op (ev_var rfl) ev_c (rv_ixT hs3 rfl)) (eg_above (ev_var rfl) (ev_op (ev_var rfl) ev_c (rv_ixT hs3 rfl)) (hc.mono e13).at_.ord) (by rw [valV_kvT]; simpa using hxy)) fun _ => ev_dninF (ev_op (ev_var rfl) ev_c (rv_ixT hs3 rfl)) (eg_above (ev_var rfl) (ev_op (ev_var rfl) ev_c (rv_ixT hs3 rfl)) (hc.mono e13).at_.ord) (by rw [valV_kvT]; simpa using hyx)) rfl) fun H4 e4 => k H4 (e13.trans e4)
theorem ok_is_break (T : Tx K mg) (F : DefF K mg "is_break" s_is_break) (g_is_pin : C8.Cal P w K mg base 3 "is_pin" (sp_is_pin K) []) (g_is_short : C8.Cal P w K mg base 3 "is_short" (sp_is_short K) []) (g_is_stem : C8.Cal P w K mg base 3 "is_stem" (sp_is_stem K) []) : C8.Cal P w K mg base 4 "is_break" (sp_is_break K) [] := by
  refine cal_of F sc_is_break (fun vs H Q E h => by obtain ⟨_, _, _, _, _, rfl, _⟩ := h; rfl) (fun _ _ _ _ _ _ us hl => match us, hl with | [_, _], _ => rfl) (fun f cdv A outer s H vs Q E hr h => ?_)
  obtain ⟨a, v, c, od, ver, rfl, hc, hv, hn, ok, k⟩ := h
  have hu := hu_of hr
  refine ⟨_, (pss_cons (ps_if (PW.pt (pw_or (pt_not (pt_val (pe_callB call_isi (by rfl) T.n_isinstance (by decide +kernel) (pa_cons (pv 1) (pa_cons (pe_bltn (v := .ty "tuple") (by rfl) T.n_tuple (by decide +kernel) rfl) pa_nil))))) (pw_or (pt_cmpR (op_eqD hr.units) (pv 1) (pe_tup pa_nil) (nomark _)) (pw_or1 (pt_not (pt_val (pe_callB call_isi (by rfl) T.n_isinstance (by decide +kernel) (pa_cons (pe_ix ix_tup (pv 1) pe_int (fun _ _ => rfl)) (pa_cons (pe_bltn (v := .ty "str") (by rfl) T.n_str (by decide +kernel) rfl) pa_nil)))))))))
          (pss_one (ps_ret pe_bl))
          pss_nil)
        (pss_cons (ps_if (pt_cmpR op_eq (pe_ix ix_tup (pv 1) pe_int (fun _ _ => rfl)) pe_str (nomark _))
          (pss_one (ps_ret (C8.pe_c g_is_stem hr (by decide) rfl (pa_cons (pv 0) (pa_cons (pv 1) pa_nil)))))
          pss_nil)
        (pss_cons (ps_if (pt_cmpR op_eq (pe_ix ix_tup (pv 1) pe_int (fun _ _ => rfl)) pe_str (nomark _))
          (pss_one (ps_ret (C8.pe_c g_is_pin hr (by decide) rfl (pa_cons (pv 0) (pa_cons (pv 1) pa_nil)))))
          pss_nil)
        (pss_one (ps_ret (pe_and (pe_cmpR op_eq (pe_ix ix_tup (pv 1) pe_int (fun _ _ => rfl)) pe_str (nomark _)) (pe_one (C8.pe_c g_is_short hr (by decide) rfl (pa_cons (pv 0) (pa_cons (pv 1) pa_nil)))))))))), ?_⟩
  obtain ⟨p, rfl, hs⟩ := hv.ref hn
  have hat : ∃ z : Str, atI ver.vs 0 = some (.str z) := by
    cases ver with
    | non => exact absurd rfl hn
    | stem z b => exact ⟨_, rfl⟩
    | pin z i b => exact ⟨_, rfl⟩
    | short x y k => exact ⟨_, rfl⟩
  obtain ⟨z0, hz0⟩ := hat
  refine q_when (b := false) (et_or (a := false) (et_not (a := true) (et_isi (ev_var rfl) (ty_tup hs) (by decide +kernel))) fun _ => et_or (a := false) (et_test (ev_opU (ev_var rfl) (eu_tup ea_nil (by decide)) fun q H1 hq e => rv_eqD (ver_dp (ex_t e hs)) (.tup (st_of hq) .nil) ((ver_ds_sh hc.ok.forms ok).ok (by omega)) rfl (ver_ne hn))) fun _ =>
    et_not (a := true) (et_isi (ev_op (ev_var rfl) ev_c (rv_ixT hs hz0)) (.base (.str _)) (by decide +kernel))) (fun q => nomatch q) fun _ H1 e1 => ?_
  have hs1 := ex_t e1 hs
  cases ver with
  | non => exact absurd rfl hn
  | stem z b =>
    refine q_when (b := true) (et_test (ev_is (ev_op (ev_op (ev_var rfl) ev_c (rv_ixT hs1 rfl)) ev_c (rv_eq rfl)) (by decide +kernel))) (fun _ H2 e2 => ?_) (fun q => nomatch q)
    exact s_ret (ev_g (eg_call (ea_cons (ev_var rfl) (ea_cons (ev_var rfl) ea_nil)) mo_V fun H3 e3 Q E q => ⟨a, _, c, od, z, b, rfl, hc.mono ((e1.trans e2).trans e3), hv.mono ((e1.trans e2).trans e3), ok, q⟩)) fun H3 e3 => k H3 ((e1.trans e2).trans e3)
  | pin z i b =>
    refine q_when (b := false) (et_test (ev_is (ev_op (ev_op (ev_var rfl) ev_c (rv_ixT hs1 rfl)) ev_c (rv_eq rfl)) (by decide +kernel))) (fun q => nomatch q) (fun _ H2 e2 => ?_)
    refine q_when (b := true) (et_test (ev_is (ev_op (ev_op (ev_var rfl) ev_c (rv_ixT (ex_t e2 hs1) rfl)) ev_c (rv_eq rfl)) (by decide +kernel))) (fun _ H3 e3 => ?_) (fun q => nomatch q)
    have e13 := (e1.trans e2).trans e3
    exact s_ret (ev_g (eg_call (ea_cons (ev_var rfl) (ea_cons (ev_var rfl) ea_nil)) mo_V fun H4 e4 Q E q => ⟨a, _, c, od, z, i, b, rfl, hc.mono (e13.trans e4), hv.mono (e13.trans e4), ok, q⟩)) fun H4 e4 => k H4 (e13.trans e4)
  | short x y kd =>
    refine q_when (b := false) (et_test (ev_is (ev_op (ev_op (ev_var rfl) ev_c (rv_ixT hs1 rfl)) ev_c (rv_eq rfl)) (by decide +kernel))) (fun q => nomatch q) (fun _ H2 e2 => ?_)
    refine q_when (b := false) (et_test (ev_is (ev_op (ev_op (ev_var rfl) ev_c (rv_ixT (ex_t e2 hs1) rfl)) ev_c (rv_eq rfl)) (by decide +kernel))) (fun q => nomatch q) (fun _ H3 e3 => ?_)
    have e13 := (e1.trans e2).trans e3
    have hs3 := ex_t e3 (ex_t e2 hs1)
    exact s_ret (ev_is (ev_andV (a := true) (b := true) (ev_is (ev_op (ev_op (ev_var rfl) ev_c (rv_ixT hs3 rfl)) ev_c (rv_eq rfl)) (by decide +kernel)) fun _ => ev_g (eg_call (ea_cons (ev_var rfl) (ea_cons (ev_var rfl) ea_nil)) mo_V fun H4 e4 Q E q => ⟨a, _, c, od, x, y, kd, rfl, hc.mono (e13.trans e4), hv.mono (e13.trans e4), ok, q⟩)) rfl) fun H4 e4 => k H4 (e13.trans e4)
theorem ok_check_version (T : Tx K mg) (F : DefF K mg "check_version" s_check_version) (g_is_break : C8.Cal P w K mg base 4 "is_break" (sp_is_break K) []) : C8.Cal P w K mg base 5 "check_version" (sp_check_version K) [] := by
  refine cal_of F sc_check_version (fun vs H Q E h => by obtain ⟨_, _, _, _, _, rfl, _⟩ := h; rfl) (fun _ _ _ _ _ _ us hl => match us, hl with | [_, _], _ => rfl) (fun f cdv A outer s H vs Q E hr h => ?_)
  obtain ⟨a, v, c, od, ver, rfl, hc, hv, ok, k⟩ := h
  have hu := hu_of hr
  refine ⟨_, (pss_one (ps_if (PW.pt (pw_and (pt_cmpR op_notN1 (pv 1) pe_non (nomark _)) (pw_and1 (pt_not (pt_val (C8.pe_c g_is_break hr (by decide) rfl (pa_cons (pv 0) (pa_cons (pv 1) pa_nil))))))))
          (pss_one ps_never)
          pss_nil)), ?_⟩
  by_cases hn : ver = .non
  · rcases hv with ⟨_, rfl⟩ | ⟨h, _⟩
    · exact s_when (b := false) (et_and (a := false) (b := false) (et_test (ev_is (ev_op (ev_var rfl) ev_c rv_notN) (by decide +kernel))) fun q => nomatch q) (fun q => nomatch q) fun _ H1 e1 => k H1 e1
    · exact absurd hn h
  · obtain ⟨p, rfl, hs⟩ := hv.ref hn
    refine s_when (b := false) (et_and (a := true) (b := false) (et_test (ev_is (ev_op (ev_var rfl) ev_c rv_notN) ?_)) fun _ => et_not (a := true) (et_B (ev_g (eg_call (ea_cons (ev_var rfl) (ea_cons (ev_var rfl) ea_nil)) mo_V fun H3 e3 Q E q => ⟨a, _, c, od, ver, rfl, hc.mono e3, hv.mono e3, hn, ok, q⟩)))) (fun q => nomatch q) fun _ H1 e1 => k H1 e1
    congr 1
end
end Pw


namespace Pw
open PySem PySem.Spec PyProof.Rows L2 Evl
/-! ### the shorts of a circuit -/
theorem U_trans : ∀ x ∈ U, ∀ y ∈ U, ∀ z ∈ U, ltCps y.cps.toList x.cps.toList = false → ltCps z.cps.toList y.cps.toList = false → ltCps z.cps.toList x.cps.toList = false := by decide +kernel
theorem U_lt : ∀ x ∈ U, ∀ y ∈ U, ltCps y.cps.toList x.cps.toList = false → x ≠ y → x.cps.toList < y.cps.toList := by decide +kernel
theorem rising_all : ∀ {ys : List Str} {x : Str}, x ∈ U → (∀ z ∈ ys, z ∈ U) → risingS x ys = true → ∀ z ∈ ys, ltCps z.cps.toList x.cps.toList = false
  | [], _, _, _, _, z, hz => nomatch hz
  | y :: r, x, hx, hu, h, z, hz => by
    rw [risingS, Bool.and_eq_true, Bool.not_eq_true'] at h
    rcases List.mem_cons.mp hz with rfl | hz
    · exact h.1
    · have hy := hu y List.mem_cons_self
      exact U_trans x hx y hy z (hu z (List.mem_cons_of_mem _ hz)) h.1 (rising_all hy (fun w hw => hu w (List.mem_cons_of_mem _ hw)) h.2 z hz)
theorem rising_pw : ∀ {ys : List Str} {x : Str}, x ∈ U → (∀ z ∈ ys, z ∈ U) → (x :: ys).Nodup → risingS x ys = true → (x :: ys).Pairwise fun a b => a.cps.toList < b.cps.toList
  | [], x, _, _, _, _ => List.pairwise_singleton _ _
  | y :: r, x, hx, hu, nd, h => by
    rw [List.pairwise_cons]
    rw [List.nodup_cons] at nd
    refine ⟨fun z hz => U_lt x hx z (hu z hz) (rising_all hx hu h z hz) (fun e => nd.1 (e ▸ hz)), ?_⟩
    rw [risingS, Bool.and_eq_true] at h
    exact rising_pw (hu y List.mem_cons_self) (fun w hw => hu w (List.mem_cons_of_mem _ hw)) nd.2 h.2
theorem sorted_pw {ys : List Str} (hu : ∀ z ∈ ys, z ∈ U) (nd : ys.Nodup) (h : sortedS ys = true) : ys.Pairwise fun a b => a.cps.toList < b.cps.toList := by
  cases ys with
  | nil => exact List.Pairwise.nil
  | cons x r => exact rising_pw (hu x List.mem_cons_self) (fun w hw => hu w (List.mem_cons_of_mem _ hw)) nd h
def kvR (q : Str × Addr) : Key × V := (Sum.inr q.1, V.ref q.2)
theorem valV_kvR (z : Str) : ∀ kn : List (Str × Addr), valV (kn.map kvR) (.inr z) = (kn.lookup z).map V.ref
  | [] => rfl
  | (x, i) :: r => by
    rw [List.map_cons, List.lookup_cons]
    by_cases e : x = z
    · subst e
      rw [valV_pos (p := kvR (x, i)) (k := .inr x) rfl]
      simp [kvR]
    · rw [valV_neg (p := kvR (x, i)) (fun q => e (by injection q)), valV_kvR z r]
      have : (z == x) = false := by simpa using fun q => e q.symm
      rw [this]
theorem lookup_mem {α : Type} {z : Str} {i : α} : ∀ {kn : List (Str × α)}, kn.lookup z = some i → (z, i) ∈ kn
  | [], h => by cases h
  | (x, j) :: r, h => by
    rw [List.lookup_cons] at h
    by_cases e : z = x
    · subst e
      simp only [beq_self_eq_true, Option.some.injEq] at h
      rw [h]
      exact List.mem_cons_self
    · have h2 : (z == x) = false := by simpa using e
      rw [h2] at h
      exact List.mem_cons_of_mem _ (lookup_mem h)
theorem cutV_from (xs : List V) (i : Nat) : cutV xs (some ((i : Int) + 1)) none = xs.drop (i + 1) := by
  have e : ((i : Int) + 1) = ((i + 1 : Nat) : Int) := by omega
  unfold cutV
  rw [e, HT.sIx_nat, HT.sIx_none]
  by_cases h : i + 1 ≤ xs.length
  · rw [Nat.min_eq_left h]
    exact List.take_of_length_le (by rw [List.length_drop]; omega)
  · have h1 : xs.drop (i + 1) = [] := List.drop_eq_nil_of_le (by omega)
    rw [Nat.min_eq_right (by omega), h1, List.drop_length]
    simp
section
variable {K : PySem.W.Frag} {σ : L2.St} {H H' : Hp} {td ty tl tk tv ta te : TE} {j : Nat} {vs : List Nat} {D : Ends} {tu tz : TS}
theorem eg_lcU {xs : List V} {P : Nat → V → Hp → Prop} (hP : ∀ j v H1 H2, ExT H1 H2 → P j v H1 → P j v H2) (h : EvU tl σ H xs) (hz : xs.length ≤ 40000) (hw : ∀ x, wipe ((wipe σ vs).set j (some x)) vs = wipe σ vs)
    (he : ∀ (i : Nat) (x : V) H1, Ex H H1 → xs[i]? = some x → EvG te ((wipe σ vs).set j (some x)) H1 (RetP (P i))) : EvG (tLc (iTup K tl) (gName j) tYes te vs) σ H (LcW xs.length P) := fun H0 e Q q => h H0 e _ fun a H1 ha e1 hx => ⟨a, rfl, ⟨xs, st_of hx⟩, fun Dl hD =>
  lc_tup (xs := xs) (CwP H1 P Dl) ⟨hD, Ex.new hD, [], upd_same, rfl, fun j v hj => by simp at hj⟩ (fun i H' _ p => st_of (p.2.1 a _ hx)) (fun i x H' hi p => ⟨hw x, cwP_turn hP p (by have := (List.getElem?_eq_some_iff.mp hi).1; omega) (he i x H1 (e.trans e1) hi)⟩)
    (fun H' p => q Dl H' (fresh_back e1 p.1) (e1.trans p.2.1) p.2.2)⟩
/-- what a dict comprehension has made, its values new dicts -/
def DcF (H : Hp) (F : Str → List (Key × V)) (zs : List Str) (Dl : Addr) (i : Nat) (H' : Hp) : Prop :=
  H Dl = none ∧ Ex H H' ∧ ∃ qs : List (Str × Addr), qs.map (·.1) = zs.take i ∧ H' Dl = some (.dK (qs.map kvR)) ∧ ∀ q ∈ qs, q.2 ≠ Dl ∧ H' q.2 = some (.dK (F q.1))
theorem eg_dcF {a : Addr} {zs : List Str} {F : Str → List (Key × V)} (h : Ev tl σ H (.ref a)) (hx : SqL K H a (zs.map V.str)) (hz : zs.length ≤ 40000) (nd : zs.Nodup) (hw : ∀ x, wipe ((wipe σ vs).set j (some x)) vs = wipe σ vs)
    (hk : ∀ z H1, Ex H H1 → z ∈ zs → Ev tk ((wipe σ vs).set j (some (.str z))) H1 (.str z)) (he : ∀ z H1, Ex H H1 → z ∈ zs → EvG tv ((wipe σ vs).set j (some (.str z))) H1 (RetF fun p H2 => H2 p = some (.dK (F z)))) :
    EvG (tDc (iList K tl) (gName j) tYes tk tv vs) σ H (RetF fun p H2 => ∃ qs : List (Str × Addr), qs.map (·.1) = zs ∧ H2 p = some (.dK (qs.map kvR)) ∧ ∀ q ∈ qs, H2 q.2 = some (.dK (F q.1))) := fun H0 e Q q => h H0 e _ fun H1 e1 => ⟨a, rfl, ⟨_, ex_l (e.trans e1) hx⟩, fun Dl hD =>
  dc_it (walk_list (K := K) (a := a) (xs := zs.map V.str)) (DcF H1 F zs Dl) ⟨hD, Ex.new hD, [], by simp, upd_same, fun q hq => nomatch hq⟩ (fun i H' _ p => ex_l ((e.trans e1).trans p.2.1) hx) (fun i x H2 H' hi p y => by
      obtain ⟨rfl, hy⟩ := y
      obtain ⟨z, hzi, rfl⟩ := map_at hy
      have hm := List.mem_of_getElem? hzi
      obtain ⟨p1, p2, qs, p3, p4, p5⟩ := p
      refine ⟨hw _, ?_⟩
      show tk ((wipe σ vs).set j (some (.str z))) H' fun y H4 => _
      refine hk z H1 (e.trans e1) hm H' p2 _ fun H4 e4 => he z H1 (e.trans e1) hm H4 (p2.trans e4) _ fun d H5 hd e5 h5 => ⟨qs.map kvR, .inr z, rfl, e5 _ _ (e4 _ _ p4), sz_lt ?_, p1, Ex.mut ((p2.trans e4).trans e5) p1, qs ++ [(z, d)], ?_, ?_, ?_⟩
      · have := congrArg List.length p3
        rw [List.length_map, List.length_take] at this
        rw [List.length_map]
        omega
      · rw [List.map_append, p3, take_snoc hzi]
        rfl
      · rw [upd_same, putK_new, List.map_append]
        · rfl
        · rw [valV_kvR, lookup_none_of]
          · rfl
          · rw [p3]
            exact nd_take nd hzi
      · have hdd : d ≠ Dl := fun q => by
          rw [q, e4 _ _ p4] at hd
          cases hd
        intro q hq
        rcases List.mem_append.mp hq with hq | hq
        · obtain ⟨n1, n2⟩ := p5 q hq
          exact ⟨n1, by rw [upd_ne n1]; exact e5 _ _ (e4 _ _ n2)⟩
        · rw [List.mem_singleton.mp hq]
          exact ⟨hdd, by rw [upd_ne hdd]; exact h5⟩)
    (fun H' p => q Dl H' (fresh_back e1 p.1) (e1.trans p.2.1) (by
      obtain ⟨_, _, qs, h3, h4, h5⟩ := p
      rw [List.length_map, List.take_length] at h3
      exact ⟨qs, h3, h4, fun q hq => (h5 q hq).2⟩))⟩
/-- xs.extend(a new list) -/
theorem s_extF {l : Addr} {xs : List V} {n : Nat} {P : Nat → V → Hp → Prop} (hl : H l = some (.lst xs)) (ha : Ev ta σ H (.ref l)) (h : EvG te σ H (LcW n P)) (hz : xs.length + n ≤ 100000)
    (k : ∀ H1 ys, Ex H H1 → ys.length = n → (∀ (j : Nat) v, ys[j]? = some v → P j v H1) → D.nx σ (upd H1 l (.lst (xs ++ ys)))) : tDrop (tBM K "list" rExtend ta (tCons te tNil)) D σ H := ha H (Ex.refl H) _ fun H1 e1 =>
  ⟨Or.inl ⟨rfl, xs, sq_of (e1 l _ hl)⟩, h H1 e1 _ fun p H2 hp e2 hh => by
    obtain ⟨ys, h2, hn, hj⟩ := hh
    exact ⟨l, p, xs, ys, rfl, rfl, e2 l _ (e1 l _ hl), h2, sz_of (by omega), k H2 ys (e1.trans e2) hn hj⟩⟩
end
def VersIn (K : PySem.W.Frag) (H : Hp) (c : Ck) (od : List GV) (xs : List V) : Prop := ∀ x ∈ xs, ∃ ver, VerAt K H x ver ∧ ver.Ok c od
def sp_shorts (K : PySem.W.Frag) : Sp := fun vs H Q _ => ∃ (a : Addr) (c : Ck) (od : List GV), vs = [.ref a] ∧ CkUp K H a c od ∧ RetF (fun p H2 => ∃ xs : List V, H2 p = some (.lst xs) ∧ xs.length ≤ 8000 ∧ VersIn K H2 c od xs) H Q
section
variable {P : Program} {w : World} {K : PySem.W.Frag} {mg : Str → Option Value} {base : Heap}
theorem ok_shorts (T : Tx K mg) (F : DefF K mg "shorts" s_shorts) (g_Circuit_above : C8.Met P w K mg base 1 (He.ga K "Circuit") "above" (sp_Circuit_above K) []) (g_Circuit_lines : C8.Met P w K mg base 2 (He.ga K "Circuit") "lines" (sp_Circuit_lines K) []) : C8.Cal P w K mg base 3 "shorts" (sp_shorts K) [] := by
  refine cal_of F sc_shorts (fun vs H Q E h => by obtain ⟨_, _, _, rfl, _⟩ := h; rfl) (fun _ _ _ _ _ _ us hl => match us, hl with | [_], _ => rfl) (fun f cdv A outer s H vs Q E hr h => ?_)
  obtain ⟨a, c, od, rfl, hc, k⟩ := h
  have hu := hu_of hr
  refine ⟨_, (pss_cons (ps_set (i := 1) sc_shorts.nd rfl (Or.inl rfl) (pe_callB cr_sortedS (by rfl) T.n_sorted (by decide +kernel) (pa_cons (C8.pe_mt0 g_Circuit_lines hr (by decide) (pv 0)) pa_nil)))
        (pss_cons (ps_setDc (i := 2) (own := [("line", 3)]) (g := gName 3) (tt := tYes) rfl sc_shorts.nd rfl rfl (sw_trueD rfl rfl rfl (by decide +kernel)) (pi_list (pv 1)) (blkOk_by (N := ["circuit", "lines", "above", "line", "found", "index", "one", "other", "kind"]) (sc := defScope s_shorts) (by decide +kernel)) (fun _ _ _ _ _ => (pg_name (i := 3) sc_shorts.nd rfl (Or.inl rfl))) (fun _ _ _ _ _ => pts_nil) (fun _ _ _ _ _ => (pv 3)) (fun _ _ _ _ _ => (C8.pe_mt g_Circuit_above hr (by decide) (pv 0) (pa_cons (pv 3) pa_nil))))
        (pss_cons (ps_set (i := 4) sc_shorts.nd rfl (Or.inl rfl) (pe_lst pa_nil))
        (pss_cons (ps_for PassesOwn.never rfl (pi_enum rfl T.n_enumerate (pa_cons (pv 1) pa_nil)) (pg_tup rfl (pgs_cons (pg_name (i := 5) sc_shorts.nd rfl (Or.inl rfl)) (pgs_cons (pg_name (i := 6) sc_shorts.nd rfl (Or.inr rfl)) pgs_nil)))
          (pss_one (ps_for PassesOwn.never rfl (pi_list (pe_slice sl_list (pv 1) (po_some (pe_op op_add (pv 5) pe_int)) po_none)) (pg_name (i := 7) sc_shorts.nd rfl (Or.inr rfl))
              (pss_one (ps_if (PW.pt (pw_and (pt_cmp (pc_dnotin hu (pv 6) (pe_dget hu (pv 2) (pv 7) (fun _ _ => rfl)))) (pw_and1 (pt_cmp (pc_dnotin hu (pv 7) (pe_dget hu (pv 2) (pv 6) (fun _ _ => rfl)))))))
                  (pss_one (ps_expr (pe_bm PySem.F.plainAttrs_list PySem.F.slot_list_extend PySem.F.type_list_extend mt_extend (pv 4) (pa_cons (pe_lc (own := [("kind", 8)]) (g := gName 8) (tt := tYes) rfl sc_shorts.nd (pi_tup (pe_tup (pa_cons pe_str (pa_cons pe_str pa_nil)))) (blkOk_by (N := ["circuit", "lines", "above", "line", "found", "index", "one", "other", "kind"]) (sc := defScope s_shorts) (by decide +kernel)) (fun _ _ _ _ _ => (pg_name (i := 8) sc_shorts.nd rfl (Or.inl rfl))) (fun _ _ _ _ _ => pts_nil) (fun _ _ _ _ _ => (pe_tup (pa_cons pe_str (pa_cons (pv 6) (pa_cons (pv 7) (pa_cons (pv 8) pa_nil))))))) pa_nil))))
                  pss_nil)))))
        (pss_one (ps_ret (pv 4))))))), ?_⟩
  have hln := hc.ok.names.ln
  have hU := lines_U hc.ok.forms
  refine eg_lines (ev_var rfl) hc.at_.parts H (Ex.refl H) _ fun pl H1 hpl e1 hl1 => ?_
  refine ⟨pl, c.lines, rfl, sq_of hl1, by omega, fun zs lz hpm hso hlz => ?_⟩
  have e2 : Ex H (upd H1 lz (.lst (zs.map V.str))) := e1.trans (Ex.new hlz)
  have hz2 : (upd H1 lz (.lst (zs.map V.str))) lz = some (.lst (zs.map V.str)) := upd_same
  have hlz0 : H lz = none := fresh_back e1 hlz
  generalize upd H1 lz (.lst (zs.map V.str)) = H2 at e2 hz2
  have hmem : ∀ z ∈ zs, z ∈ c.lines := fun z hz => hpm.mem_iff.mp hz
  have hnd : zs.Nodup := hpm.nodup_iff.mpr hc.ok.names.nd
  have hzl : zs.length ≤ 60 := by rw [hpm.length_eq]; exact hln
  have hpw := sorted_pw (fun z hz => hU z (hmem z hz)) hnd hso
  refine q_asgG (eg_dcF (F := fun z => (abv od.reverse [z]).map kvT) (ev_var rfl) (sq_of hz2) (by omega) hnd (fun _ => rfl) (fun z H3 e3 hz => ev_var rfl) fun z H3 e3 hz => eg_above (ev_var rfl) (ev_var rfl) (hc.mono (e2.trans e3)).at_.ord) ?_
  rintro pa H3 hpa e3 ⟨qs, hqk, hqa, hqv⟩
  refine q_asgL (el_lst ea_nil (by decide)) fun pf H4 hpf e4 hfl => ?_
  have e34 := e3.trans e4
  have hz4 := e34 _ _ hz2
  have hpf0 : H pf = none := fresh_back (e2.trans e3) hpf
  have hfz : pf ≠ lz := fun q => by rw [q, e3 _ _ hz2] at hpf; cases hpf
  have hfa : pf ≠ pa := fun q => by rw [q, hqa] at hpf; cases hpf
  have hfq : ∀ q ∈ qs, pf ≠ q.2 := fun q hq n => by rw [n, hqv q hq] at hpf; cases hpf
  -- what stays as it is, from H4 on
  refine q_forEnumV (ev_var rfl) (sq_of hz4) (fun i σ' H' => ∃ v3 v5 v6 v7 v8 xs, σ' = [some (.ref a), some (.ref lz), some (.ref pa), v3, some (.ref pf), v5, v6, v7, v8] ∧ Ex H H' ∧ H' lz = some (.lst (zs.map V.str)) ∧ H' pa = some (.dK (qs.map kvR)) ∧ (∀ q ∈ qs, H' q.2 = some (.dK ((abv od.reverse [q.1]).map kvT))) ∧ H' pf = some (.lst xs) ∧ xs.length ≤ 120 * i ∧ VersIn K H' c od xs)
    (fun H5 e5 => ⟨_, _, _, _, _, [], rfl, (e2.trans e34).trans e5, e5 _ _ hz4, e5 _ _ (e4 _ _ hqa), fun q hq => e5 _ _ (e4 _ _ (hqv q hq)), e5 _ _ hfl, by simp, fun x hx => nomatch hx⟩)
    (fun i σ' H' _ q => by obtain ⟨_, _, _, _, _, _, _, _, h, _⟩ := q; exact sq_of h) (fun i x σ' H' H5 hi q e5 => ?_) (fun σ' H' q => ?_)
  · obtain ⟨v3, v5, v6, v7, v8, xs, rfl, e', g1, g2, g3, g4, g5, g6⟩ := q
    obtain ⟨one, hone, rfl⟩ := map_at hi
    have hi1 := (List.getElem?_eq_some_iff.mp hone).1
    refine s_forNL (el_sl (ev_var rfl) (eo_some (ev_op (ev_var rfl) ev_c rv_I0)) eo_none (sq_of (e5 _ _ g1))) (fun pd m σ' H' => ∃ v3 v7 v8 xs, σ' = [some (.ref a), some (.ref lz), some (.ref pa), v3, some (.ref pf), some (.int (i : Int)), some (.str one), v7, v8] ∧ Ex H H' ∧ H' lz = some (.lst (zs.map V.str)) ∧ H' pa = some (.dK (qs.map kvR)) ∧ (∀ q ∈ qs, H' q.2 = some (.dK ((abv od.reverse [q.1]).map kvT))) ∧ H' pf = some (.lst xs) ∧ xs.length ≤ 120 * i + 2 * m ∧ VersIn K H' c od xs ∧ pd ≠ pf ∧ H' pd = some (.lst ((zs.map V.str).drop (i + 1))))
      (fun pd H6 hpd e6 hd6 => ⟨_, _, _, xs, rfl, (e'.trans e5).trans e6, e6 _ _ (e5 _ _ g1), e6 _ _ (e5 _ _ g2), fun q hq => e6 _ _ (e5 _ _ (g3 q hq)), e6 _ _ (e5 _ _ g4), by omega, fun x hx => by
        obtain ⟨ver, hv, ho⟩ := g6 x hx
        exact ⟨ver, hv.mono (e5.trans e6), ho⟩, fun n => (by rw [n, e5 _ _ g4] at hpd; cases hpd), by rw [hd6, cutV_from]⟩)
      (fun pd m σ' H' _ q => by obtain ⟨_, _, _, _, _, _, _, _, _, _, _, _, _, h⟩ := q; rw [cutV_from]; exact sq_of h) (fun pd m x σ' H6 hm q => ?_) (fun pd σ' H6 q => ?_)
    · obtain ⟨v3, v7, v8, xs, rfl, e', g1, g2, g3, g4, g5, g6, gd1, gd2⟩ := q
      rw [cutV_from, List.getElem?_drop] at hm
      obtain ⟨other, hoth, rfl⟩ := map_at hm
      have hm1 := (List.getElem?_eq_some_iff.mp hoth).1
      have hlt : one.cps.toList < other.cps.toList := by
        have := List.pairwise_iff_getElem.mp hpw i (i + 1 + m) hi1 hm1 (by omega)
        rw [(List.getElem?_eq_some_iff.mp hone).2, (List.getElem?_eq_some_iff.mp hoth).2] at this
        exact this
      have ho1 := List.mem_of_getElem? hone
      have ho2 := List.mem_of_getElem? hoth
      obtain ⟨d1, hd1⟩ := lookup_some_of (kn := qs) (z := one) (by rw [hqk]; exact ho1)
      obtain ⟨d2, hd2⟩ := lookup_some_of (kn := qs) (z := other) (by rw [hqk]; exact ho2)
      have hq1 := g3 _ (lookup_mem hd1)
      have hq2 := g3 _ (lookup_mem hd2)
      refine s_when (b := (!decide (one ∈ abv od.reverse [other])) && !decide (other ∈ abv od.reverse [one])) (et_and (et_test (ev_dnin (ev_var rfl) (ev_dget (ev_var rfl) (ev_var rfl) (.inl g2) (by rw [valV_kvR, hd2]; rfl)) (.inl hq2) (by rw [valV_kvT]))) fun _ => et_test (ev_dnin (ev_var rfl) (ev_dget (ev_var rfl) (ev_var rfl) (.inl g2) (by rw [valV_kvR, hd1]; rfl)) (.inl hq1) (by rw [valV_kvT]))) (fun hb H7 e7 => ?_) (fun hb H7 e7 => ?_)
      · simp only [Bool.and_eq_true, Bool.not_eq_true', decide_eq_false_iff_not] at hb
        refine s_extF (n := 2) (P := fun j v H => VerAt K H v (.short one other (if j = 0 then "and" else "or"))) (e7 _ _ g4) (ev_var rfl) (eg_lcU (xs := [.str "and", .str "or"]) (fun j v H1 H2 e h => h.monoT e) (eu_tup (ea_cons ev_c (ea_cons ev_c ea_nil)) (by decide)) (by decide) (fun _ => rfl) fun j x H8 e8 hx => ?_) (by omega) fun H8 ys e8 hyl hyp => ?_
        · intro H9 e9 Q q
          refine eu_tup (ea_cons (ev_c (v := .str "short")) (ea_cons (ev_var (v := .str one) rfl) (ea_cons (ev_var (v := .str other) rfl) (ea_cons (ev_var (v := x) rfl) ea_nil)))) (by simp) H9 e9 _ fun p H10 hp e10 h10 => q _ H10 e10 (.inr ⟨(fun q => by cases q), p, rfl, ?_⟩)
          match j, hx with
          | 0, hx => cases hx; exact st_of h10
          | 1, hx => cases hx; exact st_of h10
          | j + 2, hx => simp at hx
        · have e78 := e7.trans e8
          have hpf8 := e78 _ _ g4
          refine ⟨v3, _, _, xs ++ ys, rfl, Ex.mut (e'.trans e78) hpf0, ?_, ?_, ?_, upd_same, by rw [List.length_append]; omega, ?_, gd1, ?_⟩
          · rw [upd_ne (Ne.symm hfz)]
            exact e78 _ _ g1
          · rw [upd_ne (Ne.symm hfa)]
            exact e78 _ _ g2
          · intro q hq
            rw [upd_ne (Ne.symm (hfq q hq))]
            exact e78 _ _ (g3 q hq)
          · intro x hx
            rcases List.mem_append.mp hx with hx | hx
            · obtain ⟨ver, hv, ho⟩ := g6 x hx
              exact ⟨ver, (hv.mono e78).monoT (ExT.lst hpf8), ho⟩
            · obtain ⟨j, hj⟩ := List.mem_iff_getElem?.mp hx
              refine ⟨_, (hyp j x hj).monoT (ExT.lst hpf8), hmem _ ho1, hmem _ ho2, hlt, hb.1, hb.2, ?_⟩
              by_cases hj0 : j = 0
              · exact .inl (if_pos hj0)
              · exact .inr (if_neg hj0)
          · rw [upd_ne gd1]
            exact e78 _ _ gd2
      · exact ⟨v3, _, _, xs, rfl, e'.trans e7, e7 _ _ g1, e7 _ _ g2, fun q hq => e7 _ _ (g3 q hq), e7 _ _ g4, by omega, fun x hx => by
          obtain ⟨ver, hv, ho⟩ := g6 x hx
          exact ⟨ver, hv.mono e7, ho⟩, gd1, e7 _ _ gd2⟩
    · obtain ⟨v3, v7, v8, xs, rfl, e', g1, g2, g3, g4, g5, g6, gd1, gd2⟩ := q
      refine ⟨v3, _, _, _, _, xs, rfl, e', g1, g2, g3, g4, ?_, g6⟩
      rw [cutV_from, List.length_drop, List.length_map] at g5
      omega
  · obtain ⟨v3, v5, v6, v7, v8, xs, rfl, e', g1, g2, g3, g4, g5, g6⟩ := q
    rw [List.length_map] at g5
    refine s_ret (v := .ref pf) (ev_var rfl) fun H5 e5 => k pf H5 hpf0 (e'.trans e5) ⟨xs, e5 _ _ g4, by omega, fun x hx => ?_⟩
    obtain ⟨ver, hv, ho⟩ := g6 x hx
    exact ⟨ver, hv.mono e5, ho⟩
end
end Pw


namespace Pw
open PySem PySem.Spec PyProof.Rows L2 Evl
/-! ### what a circuit computes: one evaluator for bits and for words -/
abbrev Kn := List (Str × Int)
def lk (kn : Kn) (z : Str) : Int := (kn.lookup z).getD 0
def pinsV (stk : Str → Nat → Option Int) (kn : Kn) (g : Gate) : List Int := (List.range g.pins.length).map fun i => (stk g.nm i).getD (lk kn (g.pins.getD i ""))
def stepV (op : Str → List Int → Int) (stk : Str → Nat → Option Int) (fr kn : Kn) (g : GV) : Kn := kn ++ [(g.2.nm, (fr.lookup g.2.nm).getD (op g.2.kd (pinsV stk kn g.2)))]
def runV (op : Str → List Int → Int) (stk : Str → Nat → Option Int) (fr : Kn) (l : List GV) (kn : Kn) : Kn := l.foldl (stepV op stk fr) kn
def srcV (fr : Kn) (zs : List Str) (ws : List Int) : Kn := (zs.zip ws).map fun q => (q.1, (fr.lookup q.1).getD q.2)
theorem srcV_keys (fr : Kn) {zs : List Str} {ws : List Int} (h : zs.length = ws.length) : (srcV fr zs ws).map (·.1) = zs := by
  rw [srcV, List.map_map]
  show (zs.zip ws).map Prod.fst = zs
  exact List.map_fst_zip (by omega)
theorem runV_snoc {op : Str → List Int → Int} {stk : Str → Nat → Option Int} {fr kn : Kn} {l : List GV} {i : Nat} {g : GV} (h : l[i]? = some g) : runV op stk fr (l.take (i + 1)) kn = stepV op stk fr (runV op stk fr (l.take i) kn) g := by
  rw [take_snoc h, runV, List.foldl_append]
  rfl
theorem runV_keys (op : Str → List Int → Int) (stk : Str → Nat → Option Int) (fr : Kn) : ∀ (l : List GV) (kn : Kn), (runV op stk fr l kn).map (·.1) = kn.map (·.1) ++ nms l
  | [], kn => by simp [runV, nms]
  | g :: l, kn => by
    have := runV_keys op stk fr l (stepV op stk fr kn g)
    rw [runV] at this ⊢
    rw [List.foldl_cons, this, stepV, List.map_append, List.append_assoc]
    rfl
theorem topo_at : ∀ {l : List GV} {ks : List Str} {i : Nat} {g : GV}, Topo ks l → l[i]? = some g → ∀ z ∈ g.2.pins, z ∈ ks ++ nms (l.take i)
  | x :: l, ks, 0, g, t, h, z, hz => by
    cases h
    exact List.mem_append_left _ (t.1 z hz)
  | x :: l, ks, i + 1, g, t, h, z, hz => by
    have := topo_at (l := l) (i := i) t.2 h z hz
    rw [List.append_assoc] at this
    exact this
/-- the stuck pins of a version, the forced lines, the whole -/
def Ver.at_ : Ver → Str → Nat → Option Int
  | .pin z j b, n, i => if z = n ∧ j = i then some b else none
  | _, _, _ => none
def Ver.fr (f : Int → Int) (jn : Str → Int → Int → Int) (base : Kn) : Ver → Kn
  | .stem z b => [(z, f b)]
  | .short x y k => [(x, jn k (lk base x) (lk base y)), (y, jn k (lk base x) (lk base y))]
  | _ => []
def bare (op : Str → List Int → Int) (srcs : List Str) (od : List GV) (ws : List Int) : Kn := runV op (fun _ _ => none) [] od (srcV [] srcs ws)
def whole (op : Str → List Int → Int) (f : Int → Int) (jn : Str → Int → Int → Int) (ver : Ver) (srcs : List Str) (od : List GV) (ws : List Int) : Kn :=
  runV op (fun n i => (ver.at_ n i).map f) (ver.fr f jn (bare op srcs od ws)) od (srcV (ver.fr f jn (bare op srcs od ws)) srcs ws)
/-! bits -/
def kA : List Str := ["and", "nand", "not", "buf"]
def kO : List Str := ["or", "nor"]
def kN : List Str := ["nand", "nor", "xnor", "not"]
def gval (k : Str) (bs : List Int) : Int :=
  if k ∈ k0 then (if k = "high" then 1 else 0)
  else if (if k ∈ kA then decide (bs.sum = (bs.length : Int)) else if k ∈ kO then decide (0 < bs.sum) else !decide (bs.sum / 2 * 2 = bs.sum)) != decide (k ∈ kN) then 1 else 0
def jnB (k : Str) (i j : Int) : Int := if k = "and" then (if j < i then j else i) else (if j > i then j else i)
def sp_gate_value (K : PySem.W.Frag) : Sp := fun vs H Q _ => ∃ (k : Str) (p : Addr) (bs : List Int), vs = [.str k, .ref p] ∧ SqL K H p (bs.map V.int) ∧ RetV (.int (gval k bs)) H Q
def sp_joined (K : PySem.W.Frag) : Sp := fun vs H Q _ => ∃ (k : Str) (i j : Int), vs = [.str k, .int i, .int j] ∧ RetV (.int (jnB k i j)) H Q
def optV : Option Int → V
  | some b => .int b
  | none => .non
def sp_stuck_pin (K : PySem.W.Frag) : Sp := fun vs H Q _ => ∃ (v : V) (ver : Ver) (n : Str) (j : Nat), vs = [v, .str n, .int (j : Int)] ∧ VerAt K H v ver ∧ VShp ver ∧ PyData.strOk n = true ∧ RetV (optV (ver.at_ n j)) H Q
def sp_pin_value (K : PySem.W.Frag) : Sp := fun vs H Q _ => ∃ (v : V) (ver : Ver) (gv : V) (g : Gate) (j : Nat) (pk : Addr) (kn : Kn) (y : Str) (i : Int), vs = [v, gv, .int (j : Int), .ref pk] ∧ VerAt K H v ver ∧ VShp ver ∧ GateAt K H gv g ∧ PyData.strOk g.nm = true ∧
  H pk = some (.dK (kn.map kvI)) ∧ g.pins[j]? = some y ∧ kn.lookup y = some i ∧ RetV (.int ((ver.at_ g.nm j).getD i)) H Q
def sp_pass_through (K : PySem.W.Frag) : Sp := fun vs H Q _ => ∃ (a : Addr) (v : V) (pa pf : Addr) (c : Ck) (od : List GV) (ver : Ver) (bits : List Int) (fr : Kn), vs = [.ref a, v, .ref pa, .ref pf] ∧ CkUp K H a c od ∧ VerAt K H v ver ∧ VShp ver ∧ SqT K H pa (bits.map V.int) ∧ bits.length = c.srcs.length ∧
  H pf = some (.dK (fr.map kvI)) ∧ RetF (fun p H2 => H2 p = some (.dK ((runV gval ver.at_ fr od (srcV fr c.srcs bits)).map kvI))) H Q
def sp_forced_lines (K : PySem.W.Frag) : Sp := fun vs H Q _ => ∃ (a : Addr) (v : V) (pa : Addr) (c : Ck) (od : List GV) (ver : Ver) (bits : List Int), vs = [.ref a, v, .ref pa] ∧ CkUp K H a c od ∧ VerAt K H v ver ∧ ver.Ok c od ∧ SqT K H pa (bits.map V.int) ∧ bits.length = c.srcs.length ∧
  RetF (fun p H2 => H2 p = some (.dK ((ver.fr id jnB (bare gval c.srcs od bits)).map kvI))) H Q
def BadP (K : PySem.W.Frag) : Value := .ref (He.ga K "BadPattern")
def sp_check_pattern (K : PySem.W.Frag) : Sp := fun vs H Q E => ∃ (a : Addr) (pa : Addr) (c : Ck) (bits : List Int), vs = [.ref a, .ref pa] ∧ PartsAt K H a c ∧ SqT K H pa (bits.map V.int) ∧ bits.length ≤ 40000 ∧
  ((bits.length = c.srcs.length ∧ bits.all bitB = true ∧ RetV .non H Q) ∨ (bits.length ≠ c.srcs.length ∧ ∀ H2, Ex H H2 → E (BadP K) none H2))
def sp_values (K : PySem.W.Frag) : Sp := fun vs H Q _ => ∃ (a : Addr) (v : V) (pa : Addr) (c : Ck) (od : List GV) (ver : Ver) (bits : List Int), vs = [.ref a, v, .ref pa] ∧ CkUp K H a c od ∧ VerAt K H v ver ∧ ver.Ok c od ∧ SqT K H pa (bits.map V.int) ∧ bits.length = c.srcs.length ∧ bits.all bitB = true ∧
  RetF (fun p H2 => H2 p = some (.dK ((whole gval id jnB ver c.srcs od bits).map kvI))) H Q
def sp_response (K : PySem.W.Frag) : Sp := fun vs H Q _ => ∃ (a : Addr) (v : V) (pa : Addr) (c : Ck) (od : List GV) (ver : Ver) (bits : List Int), vs = [.ref a, v, .ref pa] ∧ CkUp K H a c od ∧ VerAt K H v ver ∧ ver.Ok c od ∧ SqT K H pa (bits.map V.int) ∧ bits.length = c.srcs.length ∧ bits.all bitB = true ∧
  RetF (fun p H2 => H2 p = some (.tup ((c.sinks.map fun z => lk (whole gval id jnB ver c.srcs od bits) z).map V.int))) H Q
theorem at_id (ver : Ver) : (fun n i => (ver.at_ n i).map id) = ver.at_ := by
  funext n i
  cases ver.at_ n i <;> rfl
theorem at_non : Ver.at_ .non = fun _ _ => none := by
  funext n i
  rfl
theorem whole_keys (op : Str → List Int → Int) (f : Int → Int) (jn : Str → Int → Int → Int) (ver : Ver) {srcs : List Str} (od : List GV) {ws : List Int} (h : ws.length = srcs.length) : (whole op f jn ver srcs od ws).map (·.1) = srcs ++ nms od := by
  rw [whole, runV_keys, srcV_keys _ h.symm]
theorem bare_keys (op : Str → List Int → Int) {srcs : List Str} (od : List GV) {ws : List Int} (h : ws.length = srcs.length) : (bare op srcs od ws).map (·.1) = srcs ++ nms od := by
  rw [bare, runV_keys, srcV_keys _ h.symm]
theorem CkOk.keys {c : Ck} {od : List GV} (h : CkOk c od) (z : Str) : z ∈ c.lines ↔ z ∈ c.srcs ++ nms od := by
  rw [Ck.lines, List.mem_append, List.mem_append]
  have : z ∈ nms od ↔ z ∈ nms c.gts := (h.perm.map _).mem_iff
  rw [this]
  rfl
theorem CkOk.nd {c : Ck} {od : List GV} (h : CkOk c od) : (c.srcs ++ nms od).Nodup := by
  have h2 : (nms od).Perm (nms c.gts) := h.perm.map _
  exact (List.Perm.append_left c.srcs h2).nodup_iff.mpr h.names.nd
theorem lk_of {kn : Kn} {z : Str} (h : z ∈ kn.map (·.1)) : kn.lookup z = some (lk kn z) := by
  obtain ⟨i, hi⟩ := lookup_some_of h
  rw [lk, hi]
  rfl
theorem CkOk.sink {c : Ck} {od : List GV} (h : CkOk c od) {z : Str} (hz : z ∈ c.sinks) : z ∈ c.lines := by
  refine h.names.us z ?_
  rw [Ck.sinks, List.mem_append] at hz
  rw [Ck.uses, List.mem_append, List.mem_append]
  rcases hz with q | q
  · exact .inr q
  · exact .inl (.inr q)
section
variable {K : PySem.W.Frag} {σ : L2.St} {H H' : Hp} {td ty tl tk tv ta tb te t1 t2 t3 t4 : TE} {j : Nat} {vs : List Nat} {D : Ends} {tu tz : TS} {sp : Sp} {E : XK} {R : Hp → VK → Prop} {x1 x2 x3 : V}
theorem eg_slA {p : Addr} {xs : List V} (h : Ev te σ H (.ref p)) (hs : SqT K H p xs) (hl : 3 ≤ xs.length) : EvG (tSl (rSlA K) te tNoPart (tPart (tC (.int 3)))) σ H (RetP (TupP K (xs.take 3))) := fun H1 e Q q =>
  h H1 e _ fun H2 e2 => ⟨3, rfl, p, xs, rfl, ex_t (e.trans e2) hs, fun hw => q _ H2 e2 ⟨p, rfl, by
    have h2 : HT.sIx xs.length xs.length (some ((3 : Nat) : Int)) = xs.length := hw.2
    rw [HT.sIx_nat] at h2
    rw [List.take_of_length_le (by omega)]
    exact ex_t (e.trans e2) hs⟩, fun hn pp hpp => q _ _ (e2.trans (Ex.new hpp)) ⟨pp, rfl, st_of (by
    rw [upd_same]
    have e3 : cutV xs none (some ((3 : Nat) : Int)) = xs.take 3 := by
      unfold cutV
      rw [HT.sIx_nat, HT.sIx_none, Nat.min_eq_left hl]
      rfl
    exact congrArg (fun z => some (HO.tup z)) e3)⟩⟩
theorem ev_opPU {P : V → Hp → Prop} {r : R2} {z : V} {xs : List V} (mo : ∀ v H H', Ex H H' → P v H → P v H') (ha : EvG ta σ H (RetP P)) (hb : EvU tb σ H xs) (hr : ∀ v q H1, Ex H H1 → P v H1 → H1 q = some (.tup xs) → RV r v (.ref q) H1 z) : Ev (tOp r ta tb) σ H z := fun H1 e Q k =>
  ha H1 e _ fun v H2 e2 hP => hb H2 (e.trans e2) _ fun q H3 _ e3 hq => hr v q H3 ((e.trans e2).trans e3) (mo v _ _ e3 hP) hq H3 (Ex.refl H3) Q fun H4 e4 => k H4 ((e2.trans e3).trans e4)
/-- a call whose last argument is a new object -/
theorem eg_call3F {P : Addr → Hp → Prop} (h1 : Ev t1 σ H x1) (h2 : Ev t2 σ H x2) (h3 : Ev t3 σ H x3) (h4 : EvG t4 σ H (RetF P)) (mo : Mo R) (hs : ∀ p H1, Ex H H1 → P p H1 → ∀ Q E, R H1 Q → sp [x1, x2, x3, .ref p] H1 Q E) :
    EvG (tCall sp [] E (tCons t1 (tCons t2 (tCons t3 (tCons t4 tNil))))) σ H R := fun H1 e Q q =>
  h1 H1 e _ fun H2 e2 => h2 H2 (e.trans e2) _ fun H3 e3 => h3 H3 ((e.trans e2).trans e3) _ fun H4 e4 => h4 H4 (((e.trans e2).trans e3).trans e4) _ fun p H5 hp e5 hP => hs p H5 ((((e.trans e2).trans e3).trans e4).trans e5) hP _ _ (mo _ _ _ (((e2.trans e3).trans e4).trans e5) q)
theorem rc_min2 {i j : Int} : RC (fun xs H Q => ∃ i j, xs = [.int i, .int j] ∧ Q (.int (if j < i then j else i)) H) [.int i, .int j] H (.int (if j < i then j else i)) := fun H1 _ _ q => ⟨i, j, rfl, q H1 (Ex.refl H1)⟩
theorem rc_max2 {i j : Int} : RC (fun xs H Q => ∃ i j, xs = [.int i, .int j] ∧ Q (.int (if j > i then j else i)) H) [.int i, .int j] H (.int (if j > i then j else i)) := fun H1 _ _ q => ⟨i, j, rfl, q H1 (Ex.refl H1)⟩
end
theorem tupP_mono {K : PySem.W.Frag} {xs : List V} (v : V) (H H' : Hp) (e : Ex H H') (h : TupP K xs v H) : TupP K xs v H' := by
  obtain ⟨p, h1, h2⟩ := h
  exact ⟨p, h1, ex_t e h2⟩
theorem ver_dp3 {K : PySem.W.Frag} {H : Hp} {p : Addr} {ver : Ver} (h : SqT K H p (ver.vs.take 3)) : Dp K H (.ref p) (.tuple (ver.ds.take 3)) := by
  refine .tup h ?_
  cases ver with
  | non => exact .nil
  | stem z b => exact .cons (.str _) (.cons (.str _) (.cons (.int _) .nil))
  | pin z i b => exact .cons (.str _) (.cons (.str _) (.cons (.int _) .nil))
  | short x y k => exact .cons (.str _) (.cons (.str _) (.cons (.str _) .nil))
theorem ver_eqv (ver : Ver) (hn : ver ≠ .non) (n : Str) (j : Nat) : PyData.eqv (.tuple (ver.ds.take 3)) (.tuple [.str "pin", .str n, .int (j : Int)]) = (ver.at_ n j).isSome := by
  cases ver with
  | non => exact absurd rfl hn
  | stem z b => rfl
  | short x y k => rfl
  | pin z i b =>
    show ((("pin" : Str) == ("pin" : Str)) && ((z == n) && (((i : Int) == (j : Int)) && true))) = (if z = n ∧ i = j then some b else none).isSome
    by_cases h : z = n ∧ i = j
    · rw [if_pos h, h.1, h.2]
      simp
    · rw [if_neg h]
      have : ((z == n) && (((i : Int) == (j : Int)) && true)) = false := by
        rw [Bool.and_true, Bool.eq_false_iff]
        intro q
        rw [Bool.and_eq_true, beq_iff_eq, beq_iff_eq] at q
        exact h ⟨q.1, by omega⟩
      rw [this, Bool.and_false]
      rfl
section
variable {P : Program} {w : World} {K : PySem.W.Frag} {mg : Str → Option Value} {base : Heap}
theorem ok_gate_value (T : Tx K mg) (F : DefF K mg "gate_value" s_gate_value)  : C8.Cal P w K mg base 1 "gate_value" (sp_gate_value K) [] := by
  refine cal_of F sc_gate_value (fun vs H Q E h => by obtain ⟨_, _, _, rfl, _⟩ := h; rfl) (fun _ _ _ _ _ _ us hl => match us, hl with | [_, _], _ => rfl) (fun f cdv A outer s H vs Q E hr h => ?_)
  obtain ⟨kd, p, bs, rfl, hx, k⟩ := h
  have hu := hu_of hr
  refine ⟨_, (pss_cons (ps_if (pt_cmpR op_in_seq (pv 0) (pe_tup (pa_cons pe_str (pa_cons pe_str pa_nil))) (by rfl))
          (pss_one (ps_ret (pe_callTy call_int1 (by rfl) T.n_int (by decide +kernel) (pa_cons (pe_cmpR op_eq (pv 0) pe_str (nomark _)) pa_nil))))
          pss_nil)
        (pss_cons (ps_set (i := 2) sc_gate_value.nd rfl (Or.inl rfl) (pe_callB (cr_sum rfl) (by rfl) T.n_sum (by decide +kernel) (pa_cons (pv 1) pa_nil)))
        (pss_cons (ps_if (pt_cmpR op_in_seq (pv 0) (pe_tup (pa_cons pe_str (pa_cons pe_str (pa_cons pe_str (pa_cons pe_str pa_nil))))) (by rfl))
          (pss_one (ps_set (i := 3) sc_gate_value.nd rfl (Or.inl rfl) (pe_cmpR op_eq (pv 2) (pe_callB call_len_seq (by rfl) T.n_len PySem.boot_len (pa_cons (pv 1) pa_nil)) (nomark _))))
          (pss_one (ps_if (pt_cmpR op_in_seq (pv 0) (pe_tup (pa_cons pe_str (pa_cons pe_str pa_nil))) (by rfl))
              (pss_one (ps_set (i := 3) sc_gate_value.nd rfl (Or.inl rfl) (pe_cmpR op_gt (pv 2) pe_int (nomark _))))
              (pss_one (ps_set (i := 3) sc_gate_value.nd rfl (Or.inl rfl) (pe_cmpR op_ne (pe_op op_mul (pe_op op_fdiv (pv 2) pe_int) pe_int) (pv 2) (nomark _)))))))
        (pss_one (ps_ret (pe_callTy call_int1 (by rfl) T.n_int (by decide +kernel) (pa_cons (pe_cmpR op_ne (pv 3) (pe_cmpR op_in_seq (pv 0) (pe_tup (pa_cons pe_str (pa_cons pe_str (pa_cons pe_str (pa_cons pe_str pa_nil))))) (by rfl)) (nomark _)) pa_nil))))))), ?_⟩
  have eN : inV (.str kd) [.str "nand", .str "nor", .str "xnor", .str "not"] = decide (kd ∈ kN) := inV_str kd kN
  refine q_when (b := decide (kd ∈ k0)) (et_inU (ev_var rfl) (ea_cons ev_c (ea_cons ev_c ea_nil)) (by decide) rfl rfl (inV_str kd k0)) (fun hb H1 e1 => ?_) (fun hb H1 e1 => ?_)
  · have hb := of_decide_eq_true hb
    refine s_ret (ev_intB (ev_op (ev_var rfl) ev_c (rv_eq rfl))) fun H2 e2 => ?_
    have := k H2 (e1.trans e2)
    rw [gval, if_pos hb] at this
    rw [dec_str]
    have e3 : (if (kd == "high") = true then (1 : Int) else 0) = if kd = "high" then 1 else 0 := by
      by_cases h : kd = "high"
      · rw [if_pos h, if_pos (by rw [h]; exact beq_self_eq_true _)]
      · rw [if_neg h, if_neg (by simpa using h)]
    rw [e3]
    exact this
  · have hb := of_decide_eq_false hb
    refine q_asg (ev_sum (ev_var rfl) (ex_l e1 hx)) fun H2 e2 => ?_
    have e12 := e1.trans e2
    have hxl := ex_l e12 hx
    refine q_if (b := decide (kd ∈ kA)) (et_inU (ev_var rfl) (ea_cons ev_c (ea_cons ev_c (ea_cons ev_c (ea_cons ev_c ea_nil)))) (by decide) rfl rfl (inV_str kd kA)) (fun hA H3 e3 => ?_) (fun hA H3 e3 => ?_)
    · refine s_asg (ev_op (ev_var rfl) (ev_len (ev_var rfl) (ex_l e3 hxl)) (rv_eq rfl)) fun H4 e4 => ?_
      refine s_ret (ev_intB (ev_op (ev_var rfl) (ev_inU (ev_var rfl) (eu_tup (ea_cons ev_c (ea_cons ev_c (ea_cons ev_c (ea_cons ev_c ea_nil)))) (by decide)) rfl rfl) (rv_ne rfl))) fun H5 e5 => ?_
      have := k H5 (((e12.trans e3).trans e4).trans e5)
      rw [gval, if_neg hb, if_pos (of_decide_eq_true hA)] at this
      have e6 : decide (V.int bs.sum = V.int ((bs.map V.int).length : Int)) = decide (bs.sum = (bs.length : Int)) := by
        rw [Bool.eq_iff_iff]
        simp
      rw [e6, eN, dec_bl]
      exact this
    · have hA := of_decide_eq_false hA
      refine s_if (b := decide (kd ∈ kO)) (et_inU (ev_var rfl) (ea_cons ev_c (ea_cons ev_c ea_nil)) (by decide) rfl rfl (inV_str kd kO)) (fun hO H4 e4 => ?_) (fun hO H4 e4 => ?_)
      · refine s_asg (ev_op (ev_var rfl) ev_c rv_I0) fun H5 e5 => ?_
        refine s_ret (ev_intB (ev_op (ev_var rfl) (ev_inU (ev_var rfl) (eu_tup (ea_cons ev_c (ea_cons ev_c (ea_cons ev_c (ea_cons ev_c ea_nil)))) (by decide)) rfl rfl) (rv_ne rfl))) fun H6 e6 => ?_
        have := k H6 ((((e12.trans e3).trans e4).trans e5).trans e6)
        rw [gval, if_neg hb, if_neg hA, if_pos (of_decide_eq_true hO)] at this
        rw [eN, dec_bl]
        exact this
      · refine s_asg (ev_op (ev_op (ev_op (ev_var rfl) ev_c (rv_I ⟨by decide, by decide⟩)) ev_c (rv_I (.inr ⟨by decide, by decide⟩))) (ev_var rfl) (rv_ne rfl)) fun H5 e5 => ?_
        refine s_ret (ev_intB (ev_op (ev_var rfl) (ev_inU (ev_var rfl) (eu_tup (ea_cons ev_c (ea_cons ev_c (ea_cons ev_c (ea_cons ev_c ea_nil)))) (by decide)) rfl rfl) (rv_ne rfl))) fun H6 e6 => ?_
        have := k H6 ((((e12.trans e3).trans e4).trans e5).trans e6)
        rw [gval, if_neg hb, if_neg hA, if_neg (of_decide_eq_false hO)] at this
        have e7 : decide (V.int (bs.sum / 2 * 2) = V.int bs.sum) = decide (bs.sum / 2 * 2 = bs.sum) := by
          rw [Bool.eq_iff_iff]
          simp
        rw [e7, eN, dec_bl]
        exact this
theorem ok_joined (T : Tx K mg) (F : DefF K mg "joined" s_joined)  : C8.Cal P w K mg base 1 "joined" (sp_joined K) [] := by
  refine cal_of F sc_joined (fun vs H Q E h => by obtain ⟨_, _, _, rfl, _⟩ := h; rfl) (fun _ _ _ _ _ _ us hl => match us, hl with | [_, _, _], _ => rfl) (fun f cdv A outer s H vs Q E hr h => ?_)
  obtain ⟨kd, i, j, rfl, k⟩ := h
  have hu := hu_of hr
  refine ⟨_, (pss_one (ps_ret (pe_ifExp (pt_cmpR op_eq (pv 0) pe_str (nomark _)) (pe_callB (call_min2 rfl) (by rfl) T.n_min (by decide +kernel) (pa_cons (pv 1) (pa_cons (pv 2) pa_nil))) (pe_callB (call_max2 rfl) (by rfl) T.n_max (by decide +kernel) (pa_cons (pv 1) (pa_cons (pv 2) pa_nil)))))), ?_⟩
  refine s_ret (ev_if (b := decide (kd = "and")) (et_test (ev_is (ev_op (ev_var rfl) ev_c (rv_eq rfl)) ?_)) (fun hb => ev_is (ev_cb (ea_cons (ev_var rfl) (ea_cons (ev_var rfl) ea_nil)) rc_min2) ?_) fun hb => ev_is (ev_cb (ea_cons (ev_var rfl) (ea_cons (ev_var rfl) ea_nil)) rc_max2) ?_) k
  · congr 1
    rw [Bool.eq_iff_iff]
    simp
  · rw [jnB, if_pos (of_decide_eq_true hb)]
  · rw [jnB, if_neg (of_decide_eq_false hb)]
theorem ok_stuck_pin (T : Tx K mg) (F : DefF K mg "stuck_pin" s_stuck_pin)  : C8.Cal P w K mg base 1 "stuck_pin" (sp_stuck_pin K) [] := by
  refine cal_of F sc_stuck_pin (fun vs H Q E h => by obtain ⟨_, _, _, _, rfl, _⟩ := h; rfl) (fun _ _ _ _ _ _ us hl => match us, hl with | [_, _, _], _ => rfl) (fun f cdv A outer s H vs Q E hr h => ?_)
  obtain ⟨v, ver, n, j, rfl, hv, hsh, hstr, k⟩ := h
  have hu := hu_of hr
  refine ⟨_, (pss_cons (ps_if (PW.pt (pw_and (pt_cmpR op_notN1 (pv 0) pe_non (nomark _)) (pw_and1 (pt_cmpR (op_eqD hr.units) (pe_slice sl_tupA (pv 0) po_none (po_some pe_int)) (pe_tup (pa_cons pe_str (pa_cons (pv 1) (pa_cons (pv 2) pa_nil)))) (nomark _)))))
          (pss_one (ps_ret (pe_ix ix_tup (pv 0) pe_int (fun _ _ => rfl))))
          pss_nil)
        (pss_one (ps_ret pe_non))), ?_⟩
  by_cases hn : ver = .non
  · rcases hv with ⟨_, rfl⟩ | ⟨h, _⟩
    · refine q_when (b := false) (et_and (a := false) (b := false) (et_test (ev_is (ev_op (ev_var rfl) ev_c rv_notN) (by decide +kernel))) fun q => nomatch q) (fun q => nomatch q) fun _ H1 e1 => ?_
      subst hn
      exact s_ret ev_c fun H2 e2 => k H2 (e1.trans e2)
    · exact absurd hn h
  · obtain ⟨p, rfl, hs⟩ := hv.ref hn
    have hl3 : 3 ≤ ver.vs.length := by
      cases ver with
      | non => exact absurd rfl hn
      | stem z b => exact Nat.le_refl 3
      | pin z i b => exact Nat.le_succ 3
      | short x y kd => exact Nat.le_succ 3
    have hsh3 : Sh 2 (.tuple (ver.ds.take 3)) := sh_tup fun d hd => hsh d (List.mem_of_mem_take hd)
    have hshp : Sh 2 (.tuple [.str "pin", .str n, .int (j : Int)]) := sh_tup fun d hd => by
      simp only [List.mem_cons, List.not_mem_nil, or_false] at hd
      rcases hd with rfl | rfl | rfl
      · exact sh_str (by decide +kernel)
      · exact sh_str hstr
      · exact sh_int _
    refine q_when (b := (ver.at_ n j).isSome) (et_is (et_and (a := true) (et_test (ev_is (ev_op (ev_var rfl) ev_c rv_notN) (by congr 1))) fun _ => et_test (ev_opPU tupP_mono (eg_slA (ev_var rfl) hs hl3) (eu_tup (ea_cons ev_c (ea_cons (ev_var rfl) (ea_cons (ev_var rfl) ea_nil))) (by simp)) fun v q H1 e hP hq => ?_)) (Bool.true_and _)) (fun hb H1 e1 => ?_) (fun hb H1 e1 => ?_)
    · obtain ⟨p', rfl, hp'⟩ := hP
      exact rv_eqD (ver_dp3 hp') (.tup (st_of hq) (.cons (.str _) (.cons (.str _) (.cons (.int _) .nil)))) (hsh3.ok (by omega)) (hshp.ok (by omega)) (ver_eqv ver hn n j)
    · cases ver with
      | non => exact absurd rfl hn
      | stem z b => cases hb
      | short x y kd => cases hb
      | pin z i b =>
        have hc : z = n ∧ i = j := by
          by_cases h : z = n ∧ i = j
          · exact h
          · rw [Ver.at_, if_neg h] at hb
            cases hb
        rw [Ver.at_, if_pos hc] at k
        exact s_ret (ev_op (ev_var rfl) ev_c (rv_ixT (ex_t e1 hs) rfl)) fun H2 e2 => k H2 (e1.trans e2)
    · have : ver.at_ n j = none := by simpa using hb
      rw [this] at k
      exact s_ret ev_c fun H2 e2 => k H2 (e1.trans e2)
theorem ok_pin_value (T : Tx K mg) (F : DefF K mg "pin_value" s_pin_value) (g_stuck_pin : C8.Cal P w K mg base 1 "stuck_pin" (sp_stuck_pin K) []) : C8.Cal P w K mg base 2 "pin_value" (sp_pin_value K) [] := by
  refine cal_of F sc_pin_value (fun vs H Q E h => by obtain ⟨_, _, _, _, _, _, _, _, _, rfl, _⟩ := h; rfl) (fun _ _ _ _ _ _ us hl => match us, hl with | [_, _, _, _], _ => rfl) (fun f cdv A outer s H vs Q E hr h => ?_)
  obtain ⟨v, ver, gv, g, j, pk, kn, y, i, rfl, hv, hsh, hg, hstr, hd, hy, hi, k⟩ := h
  have hu := hu_of hr
  refine ⟨_, (pss_cons (ps_set (i := 4) sc_pin_value.nd rfl (Or.inl rfl) (C8.pe_c g_stuck_pin hr (by decide) rfl (pa_cons (pv 0) (pa_cons (pe_ix ix_tup (pv 1) pe_int (fun _ _ => rfl)) (pa_cons (pv 2) pa_nil)))))
        (pss_one (ps_ret (pe_ifExp (pt_cmpR op_isN1 (pv 4) pe_non (nomark _)) (pe_dget hu (pv 3) (pe_ix ix_tup (pe_ix ix_tup (pv 1) pe_int (fun _ _ => rfl)) (pv 2) (fun _ _ => rfl)) (fun _ _ => rfl)) (pv 4))))), ?_⟩
  obtain ⟨a, q, rfl, h2, h3⟩ := id hg
  refine q_asg (ev_g (eg_call (ea_cons (ev_var rfl) (ea_cons (ev_op (ev_var rfl) ev_c (rv_ixT h2 rfl)) (ea_cons (ev_var rfl) ea_nil))) mo_V fun H1 e Q E q => ⟨v, ver, g.nm, j, rfl, hv.mono e, hsh, hstr, q⟩)) fun H1 e1 => ?_
  cases hst : ver.at_ g.nm j with
  | none =>
    rw [hst] at k
    exact s_ret (ev_if (b := true) (et_test (ev_is (ev_op (ev_var rfl) ev_c rv_isN) (by decide +kernel))) (fun _ => ev_dget (ev_var rfl) (ev_op (ev_op (ev_var rfl) ev_c (rv_ixT (ex_t e1 h2) rfl)) (ev_var rfl) (rv_ixT (ex_t e1 h3) (atI_nat (by rw [List.getElem?_map, hy]; rfl)))) (.inl (e1 _ _ hd)) (by rw [valV_kvI, hi]; rfl)) fun q => nomatch q) fun H2 e2 => k H2 (e1.trans e2)
  | some b =>
    rw [hst] at k
    exact s_ret (ev_if (b := false) (et_test (ev_is (ev_op (ev_var rfl) ev_c rv_isN) (by rfl))) (fun q => nomatch q) fun _ => ev_var rfl) fun H2 e2 => k H2 (e1.trans e2)
theorem eg_pinval {σ : L2.St} {H : Hp} {E : XK} {t1 t2 t3 t4 : TE} {v : V} {ver : Ver} {gv : V} {g : Gate} {j : Nat} {pk : Addr} {kn : Kn} {y : Str} {i : Int} (h1 : Ev t1 σ H v) (h2 : Ev t2 σ H gv) (h3 : Ev t3 σ H (.int (j : Int))) (h4 : Ev t4 σ H (.ref pk)) (hv : VerAt K H v ver) (hsh : VShp ver) (hg : GateAt K H gv g) (hstr : PyData.strOk g.nm = true)
    (hd : H pk = some (.dK (kn.map kvI))) (hy : g.pins[j]? = some y) (hi : kn.lookup y = some i) : Ev (tCall (sp_pin_value K) [] E (tCons t1 (tCons t2 (tCons t3 (tCons t4 tNil))))) σ H (.int ((ver.at_ g.nm j).getD i)) :=
  ev_g (eg_call (ea_cons h1 (ea_cons h2 (ea_cons h3 (ea_cons h4 ea_nil)))) mo_V fun H1 e Q E q => ⟨v, ver, gv, g, j, pk, kn, y, i, rfl, hv.mono e, hsh, hg.mono e, hstr, e _ _ hd, hy, hi, q⟩)
theorem getK (fr : Kn) (z : Str) (b : Int) : (valV (fr.map kvI) (.inr z)).getD (.int b) = .int ((fr.lookup z).getD b) := by
  rw [valV_kvI]
  cases fr.lookup z <;> rfl
theorem ok_pass_through (T : Tx K mg) (F : DefF K mg "pass_through" s_pass_through) (g_Circuit_sources : C8.Met P w K mg base 1 (He.ga K "Circuit") "sources" (sp_Circuit_sources K) []) (g_gate_value : C8.Cal P w K mg base 1 "gate_value" (sp_gate_value K) []) (g_pin_value : C8.Cal P w K mg base 2 "pin_value" (sp_pin_value K) []) : C8.Cal P w K mg base 3 "pass_through" (sp_pass_through K) [] := by
  refine cal_of F sc_pass_through (fun vs H Q E h => by obtain ⟨_, _, _, _, _, _, _, _, _, rfl, _⟩ := h; rfl) (fun _ _ _ _ _ _ us hl => match us, hl with | [_, _, _, _], _ => rfl) (fun f cdv A outer s H vs Q E hr h => ?_)
  obtain ⟨a, v, pa, pf, c, od, ver, bits, fr, rfl, hc, hv, hsh, hbits, hlen, hfr, k⟩ := h
  have hu := hu_of hr
  refine ⟨_, (pss_cons (ps_set (i := 4) sc_pass_through.nd rfl (Or.inr rfl) pe_dnewK)
        (pss_cons (ps_for PassesOwn.never rfl (pi_zipM rfl T.n_zip (pa_cons (C8.pe_mt0 g_Circuit_sources hr (by decide) (pv 0)) (pa_cons (pv 2) pa_nil))) (pg_tup rfl (pgs_cons (pg_name (i := 5) sc_pass_through.nd rfl (Or.inl rfl)) (pgs_cons (pg_name (i := 6) sc_pass_through.nd rfl (Or.inl rfl)) pgs_nil)))
          (pss_one (ps_dput hu (pv 4) (pv 5) (pe_dget2 hu (pv 3) (pv 5) (pv 6) ⟨rfl, rfl, rfl, rfl⟩) rfl)))
        (pss_cons (ps_for PassesOwn.never rfl (pi_list (pe_fld (pv 0) rfl)) (pg_name (i := 7) sc_pass_through.nd rfl (Or.inr rfl))
          (pss_cons (ps_setLc (i := 8) (own := [("index", 9)]) (g := gName 9) (tt := tYes) rfl sc_pass_through.nd rfl rfl (sw_true rfl rfl rfl (by decide +kernel)) (pi_range1 rfl T.n_range (pa_cons (pe_callB call_len_seq (by rfl) T.n_len PySem.boot_len (pa_cons (pe_ix ix_tup (pv 7) pe_int (fun _ _ => rfl)) pa_nil)) pa_nil)) (blkOk_by (N := ["circuit", "version", "pattern", "forced", "known", "line", "bit", "gate", "bits", "index"]) (sc := defScope s_pass_through) (by decide +kernel)) (fun _ _ _ _ _ => (pg_name (i := 9) sc_pass_through.nd rfl (Or.inl rfl))) (fun _ _ _ _ _ => pts_nil) (fun _ _ _ _ _ => (C8.pe_c g_pin_value hr (by decide) rfl (pa_cons (pv 1) (pa_cons (pv 7) (pa_cons (pv 9) (pa_cons (pv 4) pa_nil)))))))
            (pss_one (ps_dput hu (pv 4) (pe_ix ix_tup (pv 7) pe_int (fun _ _ => rfl)) (pe_dget2 hu (pv 3) (pe_ix ix_tup (pv 7) pe_int (fun _ _ => rfl)) (C8.pe_c g_gate_value hr (by decide) rfl (pa_cons (pe_ix ix_tup (pv 7) pe_int (fun _ _ => rfl)) (pa_cons (pv 8) pa_nil))) ⟨rfl, rfl, rfl, rfl⟩) rfl))))
        (pss_one (ps_ret (pv 4)))))), ?_⟩
  obtain ⟨dx, fs, lo, o1, o2, o3, o4, o5, o6, o7⟩ := hc.at_.ord
  obtain ⟨dx2, fs2, ti, tr, tg, to, hp⟩ := id hc.at_.parts
  have hkey := srcV_keys fr (zs := c.srcs) (ws := bits) hlen.symm
  have hnd := hc.ok.nd
  have hsl : c.srcs.length ≤ 40 := hc.ok.names.sn
  have hsvl : (srcV fr c.srcs bits).length = c.srcs.length := by rw [← List.length_map (f := (·.1)), hkey]
  have hpf : ∀ H', Ex H H' → ∀ q : Addr, H q = none → pf ≠ q := fun H' e q hq n => by rw [n, hq] at hfr; cases hfr
  refine q_asgG eg_dnew ?_
  intro p H1 hp1 e1 hq
  refine q_forZipM (eg_sources (ev_var rfl) (hc.mono e1).at_.parts) (ev_var rfl) (ex_t e1 hbits) (by rw [List.length_map, List.length_map]; exact hlen.symm) (fun lp i σ' H' => (∃ v5 v6, σ' = [some (.ref a), some v, some (.ref pa), some (.ref pf), some (.ref p), v5, v6, none, none, none]) ∧ Ex H H' ∧ H' p = some (.dK (((srcV fr c.srcs bits).take i).map kvI)) ∧ H' lp = some (.lst (c.srcs.map V.str)))
    (fun lp H2 hl e2 hx => ⟨⟨_, _, rfl⟩, e1.trans e2, e2 p _ hq, hx⟩) (fun lp i σ' H' _ q => ⟨sq_of q.2.2.2, ex_t q.2.1 hbits⟩) (fun lp i x y σ' H' H2 hx hy q e2 => ?_) (fun lp σ' H' q => ?_)
  · obtain ⟨⟨v5, v6, rfl⟩, e, hd, hl⟩ := q
    obtain ⟨z, hz, rfl⟩ := map_at hx
    obtain ⟨b, hb, rfl⟩ := map_at hy
    have hil := (List.getElem?_eq_some_iff.mp hz).1
    refine s_dput (z := z) (e2 _ _ hd) (by rw [List.length_map, List.length_take]; omega) (ev_dget2 (ev_var rfl) (ev_var rfl) (ev_var rfl) (.inl ((e.trans e2) _ _ hfr)) (getK fr z b)) (ev_var rfl) (ev_var rfl) fun H3 e3 => ⟨⟨_, _, rfl⟩, Ex.mut ((e.trans e2).trans e3) hp1, ?_, ?_⟩
    · have hsi : (srcV fr c.srcs bits)[i]? = some (z, (fr.lookup z).getD b) := by
        rw [srcV, List.getElem?_map, (List.getElem?_zip_eq_some (z := (z, b))).mpr ⟨hz, hb⟩]
        rfl
      rw [upd_same, putK_kvI, ← take_snoc hsi]
      rw [List.map_take, hkey]
      exact nd_take (List.nodup_append.mp hnd).1 hz
    · rw [upd_ne (ne_of hl hd (by intro q; cases q))]
      exact e3 _ _ (e2 _ _ hl)
  obtain ⟨⟨v5, v6, rfl⟩, e, hd, hl⟩ := q
  have htake : (srcV fr c.srcs bits).take (c.srcs.map V.str).length = srcV fr c.srcs bits := List.take_of_length_le (by rw [List.length_map]; omega)
  rw [htake] at hd
  refine q_forLn (ev_fld (ev_var rfl) (e _ _ o1) T.clCircuit T.na_order o2) (ex_l e o4) (fun i σ' H' => (∃ v5 v6 v7 v8, σ' = [some (.ref a), some v, some (.ref pa), some (.ref pf), some (.ref p), v5, v6, v7, v8, none]) ∧ Ex H H' ∧ H' p = some (.dK ((runV gval ver.at_ fr (od.take i) (srcV fr c.srcs bits)).map kvI)))
    (fun H2 e2 => ⟨⟨_, _, _, _, rfl⟩, e.trans e2, e2 _ _ hd⟩) (fun i σ' H' _ q => ex_l q.2.1 o4) (fun i x σ' H' hi q => ?_) (fun σ' H' q => ?_)
  · obtain ⟨⟨v5, v6, v7, v8, rfl⟩, e, hd⟩ := q
    obtain ⟨g, hg, rfl⟩ := map_at hi
    have hgm := List.mem_of_getElem? hg
    have hgc := hc.ok.perm.mem_iff.mp hgm
    have hgat := (o5 g hgm).mono e
    have hpl := o7 g hgm
    have hstr := U_str _ (hc.ok.forms.gt g hgc).1
    obtain ⟨ag, q, g1, g2, g3⟩ := id hgat
    have hin := topo_at hc.ok.topo hg
    have hkeys : (runV gval ver.at_ fr (od.take i) (srcV fr c.srcs bits)).map (·.1) = c.srcs ++ nms (od.take i) := by rw [runV_keys, hkey]
    have hil := (List.getElem?_eq_some_iff.mp hg).1
    have hknl : (runV gval ver.at_ fr (od.take i) (srcV fr c.srcs bits)).length ≤ 140 := by
      rw [← List.length_map (f := (·.1)), hkeys, List.length_append, nms, List.length_map, List.length_take]
      omega
    refine q_asgL (el_mapR (n := g.2.pins.length) (ys := (pinsV ver.at_ (runV gval ver.at_ fr (od.take i) (srcV fr c.srcs bits)) g.2).map V.int) (ea_cons (ev_is (ev_lenT (ev_op (ev_var (by rw [g1]; rfl)) ev_c (rv_ixT g2 rfl)) g3) (by rw [List.length_map])) ea_nil) (by omega) (by simp [pinsV]) (fun _ => rfl) fun j y H2 e2 hj hy => ?_) fun pb H2 hpb e2 hbl => ?_
    · obtain ⟨yv, hyv, rfl⟩ := map_at hy
      rw [pinsV, List.getElem?_map, List.getElem?_range hj] at hyv
      have hyv := Option.some.inj hyv
      subst hyv
      have hpj : g.2.pins[j]? = some g.2.pins[j] := List.getElem?_eq_getElem hj
      have hgd : g.2.pins.getD j "" = g.2.pins[j] := by rw [List.getD_eq_getElem?_getD, hpj]; rfl
      show Ev _ _ _ (V.int ((ver.at_ g.2.nm j).getD (lk _ (g.2.pins.getD j ""))))
      rw [hgd]
      refine eg_pinval (ev_var rfl) (ev_var rfl) (ev_var rfl) (ev_var rfl) (hv.mono (e.trans e2)) hsh (hgat.mono e2) hstr (e2 _ _ hd) hpj (lk_of ?_)
      rw [hkeys]
      exact hin _ (List.getElem_mem hj)
    · refine s_dput (z := g.2.nm) (e2 _ _ hd) (by rw [List.length_map]; omega) (ev_dget2 (ev_var rfl) (ev_op (ev_var (by rw [g1]; rfl)) ev_c (rv_ixT (ex_t e2 g2) rfl)) (ev_g (eg_call (ea_cons (ev_op (ev_var (by rw [g1]; rfl)) ev_c (rv_ixT (ex_t e2 g2) rfl)) (ea_cons (ev_var rfl) ea_nil)) mo_V fun H3 e3 Q E q => ⟨g.2.kd, pb, _, rfl, sq_of (e3 _ _ hbl), q⟩)) (.inl ((e.trans e2) _ _ hfr)) (getK fr g.2.nm _)) (ev_var rfl) (ev_op (ev_var (by rw [g1]; rfl)) ev_c (rv_ixT (ex_t e2 g2) rfl)) fun H3 e3 => ⟨⟨_, _, _, _, rfl⟩, Ex.mut ((e.trans e2).trans e3) hp1, ?_⟩
      rw [upd_same, putK_kvI, runV_snoc hg]
      · rfl
      · rw [hkeys]
        have h3 := hnd
        rw [← List.take_append_drop i od, nms_append, ← List.append_assoc] at h3
        have hdr : od.drop i = g :: od.drop (i + 1) := by
          rw [List.drop_eq_getElem_cons hil]
          congr 1
          exact (List.getElem?_eq_some_iff.mp hg).2
        rw [hdr] at h3
        intro hm
        exact (List.nodup_append.mp h3).2.2 g.2.nm hm g.2.nm (by simp [nms]) rfl
  · obtain ⟨⟨v5, v6, v7, v8, rfl⟩, e, hd⟩ := q
    rw [List.length_map, List.take_length] at hd
    exact s_ret (v := .ref p) (ev_var rfl) fun H2 e2 => k p H2 hp1 (e.trans e2) (e2 _ _ hd)
theorem VShp_non : VShp .non := fun d hd => nomatch hd
theorem ok_forced_lines (T : Tx K mg) (F : DefF K mg "forced_lines" s_forced_lines) (g_joined : C8.Cal P w K mg base 1 "joined" (sp_joined K) []) (g_pass_through : C8.Cal P w K mg base 3 "pass_through" (sp_pass_through K) []) : C8.Cal P w K mg base 4 "forced_lines" (sp_forced_lines K) [] := by
  refine cal_of F sc_forced_lines (fun vs H Q E h => by obtain ⟨_, _, _, _, _, _, _, rfl, _⟩ := h; rfl) (fun _ _ _ _ _ _ us hl => match us, hl with | [_, _, _], _ => rfl) (fun f cdv A outer s H vs Q E hr h => ?_)
  obtain ⟨a, v, pa, c, od, ver, bits, rfl, hc, hv, ok, hbits, hlen, k⟩ := h
  have hu := hu_of hr
  refine ⟨_, (pss_cons (ps_if (PW.pt (pw_and (pt_cmpR op_notN1 (pv 1) pe_non (nomark _)) (pw_and1 (pt_cmpR op_eq (pe_ix ix_tup (pv 1) pe_int (fun _ _ => rfl)) pe_str (nomark _)))))
          (pss_one (ps_ret (pe_disp (pps_cons (pe_ix ix_tup (pv 1) pe_int (fun _ _ => rfl)) (pe_ix ix_tup (pv 1) pe_int (fun _ _ => rfl)) pps_nil) (by rfl) (by rfl) (fun z => by cases z) (by decide))))
          pss_nil)
        (pss_cons (ps_if (PW.pt (pw_and (pt_cmpR op_notN1 (pv 1) pe_non (nomark _)) (pw_and1 (pt_cmpR op_eq (pe_ix ix_tup (pv 1) pe_int (fun _ _ => rfl)) pe_str (nomark _)))))
          (pss_cons (ps_set (i := 3) sc_forced_lines.nd rfl (Or.inl rfl) (C8.pe_c g_pass_through hr (by decide) rfl (pa_cons (pv 0) (pa_cons pe_non (pa_cons (pv 2) (pa_cons pe_dnewK pa_nil))))))
            (pss_cons (ps_set (i := 4) sc_forced_lines.nd rfl (Or.inl rfl) (C8.pe_c g_joined hr (by decide) rfl (pa_cons (pe_ix ix_tup (pv 1) pe_int (fun _ _ => rfl)) (pa_cons (pe_dget hu (pv 3) (pe_ix ix_tup (pv 1) pe_int (fun _ _ => rfl)) (fun _ _ => rfl)) (pa_cons (pe_dget hu (pv 3) (pe_ix ix_tup (pv 1) pe_int (fun _ _ => rfl)) (fun _ _ => rfl)) pa_nil)))))
            (pss_one (ps_ret (pe_disp (pps_cons (pe_ix ix_tup (pv 1) pe_int (fun _ _ => rfl)) (pv 4) (pps_cons (pe_ix ix_tup (pv 1) pe_int (fun _ _ => rfl)) (pv 4) pps_nil)) (by rfl) (by rfl) (fun z => by cases z) (by decide))))))
          pss_nil)
        (pss_one (ps_ret pe_dnewK)))), ?_⟩
  cases ver with
  | non =>
    rcases hv with ⟨_, rfl⟩ | ⟨h, _⟩
    · refine q_when (b := false) (et_and (a := false) (b := false) (et_test (ev_is (ev_op (ev_var rfl) ev_c rv_notN) (by decide +kernel))) fun q => nomatch q) (fun q => nomatch q) fun _ H1 e1 => ?_
      refine q_when (b := false) (et_and (a := false) (b := false) (et_test (ev_is (ev_op (ev_var rfl) ev_c rv_notN) (by decide +kernel))) fun q => nomatch q) (fun q => nomatch q) fun _ H2 e2 => ?_
      exact s_retG eg_dnew (mo_F _ _ _ (e1.trans e2) k)
    · exact absurd rfl h
  | stem z b =>
    obtain ⟨p, rfl, hs⟩ := hv.ref (fun q => by cases q)
    refine q_when (b := true) (et_and (a := true) (b := true) (et_test (ev_is (ev_op (ev_var rfl) ev_c rv_notN) (by rfl))) fun _ => et_test (ev_is (ev_op (ev_op (ev_var rfl) ev_c (rv_ixT hs rfl)) ev_c (rv_eq rfl)) (by decide +kernel))) (fun _ H1 e1 => ?_) (fun q => nomatch q)
    exact s_retG (eg_disp1 (ev_op (ev_var rfl) ev_c (rv_ixT (ex_t e1 hs) rfl)) (ev_op (ev_var rfl) ev_c (rv_ixT (ex_t e1 hs) rfl))) (mo_F _ _ _ e1 k)
  | pin z i b =>
    obtain ⟨p, rfl, hs⟩ := hv.ref (fun q => by cases q)
    refine q_when (b := false) (et_and (a := true) (b := false) (et_test (ev_is (ev_op (ev_var rfl) ev_c rv_notN) (by rfl))) fun _ => et_test (ev_is (ev_op (ev_op (ev_var rfl) ev_c (rv_ixT hs rfl)) ev_c (rv_eq rfl)) (by decide +kernel))) (fun q => nomatch q) fun _ H1 e1 => ?_
    refine q_when (b := false) (et_and (a := true) (b := false) (et_test (ev_is (ev_op (ev_var rfl) ev_c rv_notN) (by rfl))) fun _ => et_test (ev_is (ev_op (ev_op (ev_var rfl) ev_c (rv_ixT (ex_t e1 hs) rfl)) ev_c (rv_eq rfl)) (by decide +kernel))) (fun q => nomatch q) fun _ H2 e2 => ?_
    exact s_retG eg_dnew (mo_F _ _ _ (e1.trans e2) k)
  | short x y kd =>
    obtain ⟨p, rfl, hs⟩ := hv.ref (fun q => by cases q)
    refine q_when (b := false) (et_and (a := true) (b := false) (et_test (ev_is (ev_op (ev_var rfl) ev_c rv_notN) (by rfl))) fun _ => et_test (ev_is (ev_op (ev_op (ev_var rfl) ev_c (rv_ixT hs rfl)) ev_c (rv_eq rfl)) (by decide +kernel))) (fun q => nomatch q) fun _ H1 e1 => ?_
    refine q_when (b := true) (et_and (a := true) (b := true) (et_test (ev_is (ev_op (ev_var rfl) ev_c rv_notN) (by rfl))) fun _ => et_test (ev_is (ev_op (ev_op (ev_var rfl) ev_c (rv_ixT (ex_t e1 hs) rfl)) ev_c (rv_eq rfl)) (by decide +kernel))) (fun _ H2 e2 => ?_) (fun q => nomatch q)
    have e12 := e1.trans e2
    have hs2 := ex_t e12 hs
    refine q_asgG (R := RetF (fun p H2 => H2 p = some (.dK ((bare gval c.srcs od bits).map kvI)))) (eg_call3F (ev_var rfl) ev_c (ev_var rfl) eg_dnew mo_F fun pd H3 e3 hpd Q E q => ⟨a, .non, pa, pd, c, od, .non, bits, [], rfl, hc.mono (e12.trans e3), .inl ⟨rfl, rfl⟩, VShp_non, ex_t (e12.trans e3) hbits, hlen, hpd, q⟩) ?_
    intro pk H3 hpk e3 hk
    have hs3 := ex_t e3 hs2
    have hkeys := bare_keys gval (srcs := c.srcs) od hlen
    have hx := lk_of (kn := bare gval c.srcs od bits) (z := x) (by rw [hkeys]; exact (hc.ok.keys x).mp ok.1)
    have hy := lk_of (kn := bare gval c.srcs od bits) (z := y) (by rw [hkeys]; exact (hc.ok.keys y).mp ok.2.1)
    refine q_asg (ev_g (eg_call (ea_cons (ev_op (ev_var rfl) ev_c (rv_ixT hs3 rfl)) (ea_cons (ev_dget (ev_var rfl) (ev_op (ev_var rfl) ev_c (rv_ixT hs3 rfl)) (.inl hk) (by rw [valV_kvI, hx]; rfl)) (ea_cons (ev_dget (ev_var rfl) (ev_op (ev_var rfl) ev_c (rv_ixT hs3 rfl)) (.inl hk) (by rw [valV_kvI, hy]; rfl)) ea_nil))) mo_V fun H4 e4 Q E q => ⟨kd, _, _, rfl, q⟩)) fun H4 e4 => ?_
    have hs4 := ex_t e4 hs3
    have hne : x ≠ y := fun q => by
      have := ok.2.2.1
      rw [q] at this
      exact List.lt_irrefl _ this
    exact s_retG (eg_disp2 hne (ev_op (ev_var rfl) ev_c (rv_ixT hs4 rfl)) (ev_var rfl) (ev_op (ev_var rfl) ev_c (rv_ixT hs4 rfl)) (ev_var rfl)) (mo_F _ _ _ ((e12.trans e3).trans e4) k)
theorem ok_check_pattern (T : Tx K mg) (F : DefF K mg "check_pattern" s_check_pattern) (g_Circuit_sources : C8.Met P w K mg base 1 (He.ga K "Circuit") "sources" (sp_Circuit_sources K) []) (g_are_bits : C8.Cal P w K mg base 3 "are_bits" (sp_are_bits K) []) : CalX P w K mg base 4 "check_pattern" (sp_check_pattern K) := by
  refine calX_of F sc_check_pattern (fun vs H Q E h => by obtain ⟨_, _, _, _, rfl, _⟩ := h; rfl) (fun _ _ _ _ _ _ us hl => match us, hl with | [_, _], _ => rfl) (fun f cdv A outer s H vs Q E hr h => ?_)
  obtain ⟨a, pa, c, bits, rfl, hp, hb, hl, k⟩ := h
  have hu := hu_of hr
  refine ⟨_, (pss_one (ps_if (pt_not (pt_val (C8.pe_c g_are_bits hr (by decide) rfl (pa_cons (pv 1) (pa_cons (pe_callB call_len_seq (by rfl) T.n_len PySem.boot_len (pa_cons (C8.pe_mt0 g_Circuit_sources hr (by decide) (pv 0)) pa_nil)) pa_nil)))))
          (pss_one (ps_raise rfl (takes_of rfl rfl rfl rfl) (pmk_own0 PySem.F.excBase_ValueError T.bIn T.bMg T.bKp (raises_own T.bSub T.bTy) rfl)))
          pss_nil)), ?_⟩
  refine s_when (b := !(decide (bits.length = c.srcs.length) && bits.all bitB)) (et_not (et_B (ev_g (eg_call (ea_cons (ev_var rfl) (ea_cons (ev_is (ev_lenN (eg_sources (ev_var rfl) hp)) (by rw [List.length_map])) ea_nil)) mo_V fun H1 e Q E q => ⟨pa, c.srcs.length, bits, rfl, ex_t e hb, hl, q⟩)))) (fun hb2 H1 e1 => ?_) (fun hb2 H1 e1 => ?_)
  · rcases k with ⟨k1, k2, _⟩ | ⟨k1, k2⟩
    · rw [decide_eq_true k1, k2] at hb2
      cases hb2
    · exact k2 H1 e1
  · rcases k with ⟨k1, k2, k3⟩ | ⟨k1, k2⟩
    · exact k3 H1 e1
    · rw [decide_eq_false k1] at hb2
      cases hb2
theorem bits_few {c : Ck} {od : List GV} (h : CkOk c od) {bits : List Int} (hl : bits.length = c.srcs.length) : bits.length ≤ 40 := by
  rw [hl]
  exact h.names.sn
theorem ok_values (T : Tx K mg) (F : DefF K mg "values" s_values) (g_check_pattern : CalX P w K mg base 4 "check_pattern" (sp_check_pattern K)) (g_check_version : C8.Cal P w K mg base 5 "check_version" (sp_check_version K) []) (g_forced_lines : C8.Cal P w K mg base 4 "forced_lines" (sp_forced_lines K) []) (g_pass_through : C8.Cal P w K mg base 3 "pass_through" (sp_pass_through K) []) : C8.Cal P w K mg base 6 "values" (sp_values K) [] := by
  refine cal_of F sc_values (fun vs H Q E h => by obtain ⟨_, _, _, _, _, _, _, rfl, _⟩ := h; rfl) (fun _ _ _ _ _ _ us hl => match us, hl with | [_, _, _], _ => rfl) (fun f cdv A outer s H vs Q E hr h => ?_)
  obtain ⟨a, v, pa, c, od, ver, bits, rfl, hc, hv, ok, hbits, hlen, hbb, k⟩ := h
  have hu := hu_of hr
  refine ⟨_, (pss_cons (ps_expr (C8.pe_c g_check_version hr (by decide) rfl (pa_cons (pv 0) (pa_cons (pv 1) pa_nil))))
        (pss_cons (ps_expr (pe_cx g_check_pattern hr (by decide) rfl (pa_cons (pv 0) (pa_cons (pv 2) pa_nil))))
        (pss_one (ps_ret (C8.pe_c g_pass_through hr (by decide) rfl (pa_cons (pv 0) (pa_cons (pv 1) (pa_cons (pv 2) (pa_cons (C8.pe_c g_forced_lines hr (by decide) rfl (pa_cons (pv 0) (pa_cons (pv 1) (pa_cons (pv 2) pa_nil)))) pa_nil))))))))), ?_⟩
  have hfew := bits_few hc.ok hlen
  refine q_drop (v := .non) (ev_g (eg_call (ea_cons (ev_var rfl) (ea_cons (ev_var rfl) ea_nil)) mo_V fun H1 e Q E q => ⟨a, v, c, od, ver, rfl, hc.mono e, hv.mono e, ok, q⟩)) fun H1 e1 => ?_
  refine q_drop (v := .non) (ev_g (eg_call (ea_cons (ev_var rfl) (ea_cons (ev_var rfl) ea_nil)) mo_V fun H2 e Q E q => ⟨a, pa, c, bits, rfl, (hc.mono (e1.trans e)).at_.parts, ex_t (e1.trans e) hbits, by omega, .inl ⟨hlen, hbb, q⟩⟩)) fun H2 e2 => ?_
  have e12 := e1.trans e2
  refine s_retG (R := RetF (fun p H2 => H2 p = some (.dK ((whole gval id jnB ver c.srcs od bits).map kvI)))) (eg_call3F (P := fun p H2 => H2 p = some (.dK ((ver.fr id jnB (bare gval c.srcs od bits)).map kvI))) (ev_var rfl) (ev_var rfl) (ev_var rfl) (eg_call (ea_cons (ev_var rfl) (ea_cons (ev_var rfl) (ea_cons (ev_var rfl) ea_nil))) mo_F fun H3 e3 Q E q => ⟨a, v, pa, c, od, ver, bits, rfl, hc.mono (e12.trans e3), hv.mono (e12.trans e3), ok, ex_t (e12.trans e3) hbits, hlen, q⟩) mo_F fun pd H3 e3 hpd Q E q =>
    ⟨a, v, pa, pd, c, od, ver, bits, _, rfl, hc.mono (e12.trans e3), hv.mono (e12.trans e3), ver_shp hc.ok.forms ok, ex_t (e12.trans e3) hbits, hlen, hpd, by rw [whole, at_id] at q; exact q⟩) (mo_F _ _ _ e12 k)
theorem ok_response (T : Tx K mg) (F : DefF K mg "response" s_response) (g_Circuit_sinks : C8.Met P w K mg base 1 (He.ga K "Circuit") "sinks" (sp_Circuit_sinks K) []) (g_values : C8.Cal P w K mg base 6 "values" (sp_values K) []) : C8.Cal P w K mg base 7 "response" (sp_response K) [] := by
  refine cal_of F sc_response (fun vs H Q E h => by obtain ⟨_, _, _, _, _, _, _, rfl, _⟩ := h; rfl) (fun _ _ _ _ _ _ us hl => match us, hl with | [_, _, _], _ => rfl) (fun f cdv A outer s H vs Q E hr h => ?_)
  obtain ⟨a, v, pa, c, od, ver, bits, rfl, hc, hv, ok, hbits, hlen, hbb, k⟩ := h
  have hu := hu_of hr
  refine ⟨_, (pss_cons (ps_set (i := 3) sc_response.nd rfl (Or.inr rfl) (C8.pe_c g_values hr (by decide) rfl (pa_cons (pv 0) (pa_cons (pv 1) (pa_cons (pv 2) pa_nil)))))
        (pss_one (ps_ret (pe_callTy call_tuple_of (by rfl) T.n_tuple (by decide +kernel) (pa_cons (pe_lc (own := [("line", 4)]) (g := gName 4) (tt := tYes) rfl sc_response.nd (pi_list (C8.pe_mt0 g_Circuit_sinks hr (by decide) (pv 0))) (blkOk_by (N := ["circuit", "version", "pattern", "known", "line"]) (sc := defScope s_response) (by decide +kernel)) (fun _ _ _ _ _ => (pg_name (i := 4) sc_response.nd rfl (Or.inl rfl))) (fun _ _ _ _ _ => pts_nil) (fun _ _ _ _ _ => (pe_dget hu (pv 3) (pv 4) (fun _ _ => rfl)))) pa_nil))))), ?_⟩
  obtain ⟨dx2, fs2, ti, tr, tg, to, hp⟩ := id hc.at_.parts
  refine q_asgG (R := RetF (fun p H2 => H2 p = some (.dK ((whole gval id jnB ver c.srcs od bits).map kvI)))) (eg_call (ea_cons (ev_var rfl) (ea_cons (ev_var rfl) (ea_cons (ev_var rfl) ea_nil))) mo_F fun H1 e Q E q => ⟨a, v, pa, c, od, ver, bits, rfl, hc.mono e, hv.mono e, ok, ex_t e hbits, hlen, hbb, q⟩) ?_
  intro pk H1 hpk e1 hk
  have hkeys := whole_keys gval id jnB ver (srcs := c.srcs) od hlen
  have f1 := hp.few.outs
  have f2 := hp.few.regs
  refine s_retU (eu_tupOf (xs := (c.sinks.map fun z => lk (whole gval id jnB ver c.srcs od bits) z).map V.int) (el_mapNL (eg_sinks (ev_var rfl) (hc.mono e1).at_.parts) (by simp [Ck.sinks, Ck.takens]; omega) (by simp) (fun _ => rfl) fun i x y H2 e2 hx hy => ?_)) fun p H2 hp2 e2 hq => k p H2 (fresh_back e1 hp2) (e1.trans e2) hq
  obtain ⟨z, hz, rfl⟩ := map_at hx
  rw [List.map_map, List.getElem?_map, hz] at hy
  cases hy
  have hin := (hc.ok.keys z).mp (hc.ok.sink (List.mem_of_getElem? hz))
  exact ev_dget (ev_var rfl) (ev_var rfl) (.inl (e2 _ _ hk)) (by rw [valV_kvI, lk_of (by rw [hkeys]; exact hin)]; rfl)
end
end Pw


namespace Pw
open PySem PySem.Spec PyProof.Rows L2 Evl
/-! ### many patterns at once -/
def wordF : Nat → Int → List Int → Int
  | _, w, [] => w
  | i, w, b :: r => wordF (i + 1) (Builtin.bitOr w (b * 2 ^ i)) r
def wordO (bs : List Int) : Int := wordF 0 0 bs
theorem wordF_snoc : ∀ {l : List Int} {i : Nat} {w b : Int}, wordF i w (l ++ [b]) = Builtin.bitOr (wordF i w l) (b * 2 ^ (i + l.length))
  | [], i, w, b => by simp [wordF]
  | x :: l, i, w, b => by
    rw [List.cons_append, wordF, wordF_snoc, wordF, List.length_cons]
    congr 3
    omega
def kAn : List Str := ["and", "nand"]
def foldW (k : Str) (w o : Int) : Int := if k ∈ kAn then Builtin.bitAnd w o else if k ∈ kO then Builtin.bitOr w o else Builtin.bitXor w o
def gword (m : Int) (k : Str) (ws : List Int) : Int :=
  if k ∈ k0 then (if k = "high" then m else 0)
  else if k ∈ kN then Builtin.bitXor ((ws.drop 1).foldl (foldW k) (ws.getD 0 0)) m else (ws.drop 1).foldl (foldW k) (ws.getD 0 0)
def fullW (m b : Int) : Int := if b = 1 then m else 0
def jnW (k : Str) (i j : Int) : Int := if k = "and" then Builtin.bitAnd i j else Builtin.bitOr i j
def maskW (n : Nat) : Int := 1 * 2 ^ n - 1
def PatAt (K : PySem.W.Frag) (H : Hp) (v : V) (bits : List Int) : Prop := ∃ p, v = .ref p ∧ SqT K H p (bits.map V.int)
theorem PatAt.mono {K : PySem.W.Frag} {H H' : Hp} {v : V} {bits : List Int} (e : Ex H H') (h : PatAt K H v bits) : PatAt K H' v bits := by
  obtain ⟨p, h1, h2⟩ := h
  exact ⟨p, h1, ex_t e h2⟩
abbrev PV := V × List Int
structure PatsAt (K : PySem.W.Frag) (H : Hp) (l : Addr) (ps : List PV) : Prop where
  sq : SqL K H l (ps.map (·.1))
  at_ : ∀ p ∈ ps, PatAt K H p.1 p.2
  few : ps.length ≤ 1000
theorem PatsAt.mono {K : PySem.W.Frag} {H H' : Hp} {l : Addr} {ps : List PV} (e : Ex H H') (h : PatsAt K H l ps) : PatsAt K H' l ps := ⟨ex_l e h.sq, fun p hp => (h.at_ p hp).mono e, h.few⟩
def Good (n : Nat) (bs : List Int) : Prop := bs.length = n ∧ bs.all bitB = true
/-- the word of each source -/
def colW (ps : List PV) (n : Nat) : List Int := (List.range n).map fun j => wordO (ps.map fun p => p.2.getD j 0)
def mmeths : List Str := ["full", "pin", "through", "words"]
structure MnOf (K : PySem.W.Frag) (H : Hp) (m a : Addr) (v : V) (gv : Kn) (mask : Int) (dx : Addr) (fs : List (Str × V)) (gd : Addr) : Prop where
  ob : H m = some (.ins (He.ga K "Many") dx fs)
  lc : fs.lookup ("circuit" : Str) = some (V.ref a)
  lv : fs.lookup ("version" : Str) = some v
  lm : fs.lookup ("mask" : Str) = some (V.int mask)
  lg : fs.lookup ("given" : Str) = some (V.ref gd)
  nom : ∀ q ∈ mmeths, fs.lookup q = none
  dg : H gd = some (.dK (gv.map kvI))
def MnAt (K : PySem.W.Frag) (H : Hp) (m a : Addr) (v : V) (gv : Kn) (mask : Int) : Prop := ∃ dx fs gd, MnOf K H m a v gv mask dx fs gd
theorem MnAt.mono {K : PySem.W.Frag} {H H' : Hp} {m a : Addr} {v : V} {gv : Kn} {mask : Int} (e : Ex H H') (h : MnAt K H m a v gv mask) : MnAt K H' m a v gv mask := by
  obtain ⟨dx, fs, gd, h1, h2, h3, h4, h5, h6, h7⟩ := h
  exact ⟨dx, fs, gd, e _ _ h1, h2, h3, h4, h5, h6, e _ _ h7⟩
def sp_word_of (K : PySem.W.Frag) : Sp := fun vs H Q _ => ∃ (p : Addr) (bs : List Int), vs = [.ref p] ∧ SqL K H p (bs.map V.int) ∧ (∀ b ∈ bs, bitB b = true) ∧ bs.length ≤ 1000 ∧ RetV (.int (wordO bs)) H Q
def sp_gate_word (K : PySem.W.Frag) : Sp := fun vs H Q _ => ∃ (k : Str) (p : Addr) (ws : List Int) (m : Int), vs = [.str k, .ref p, .int m] ∧ SqL K H p (ws.map V.int) ∧ (k ∈ k0 ∨ ws ≠ []) ∧ ws.length ≤ 4 ∧ RetV (.int (gword m k ws)) H Q
def sp_Many___init__ (K : PySem.W.Frag) : Sp := fun vs H Q _ => ∃ (x a : Addr) (v : V) (l : Addr) (c : Ck) (od : List GV) (ps : List PV) (H0 : Hp), vs = [.ref x, .ref a, v, .ref l] ∧ Ex H0 H ∧ H0 x = none ∧ (∃ dx, H x = some (.ins (He.ga K "Many") dx [])) ∧ CkUp K H0 a c od ∧ PatsAt K H0 l ps ∧ (∀ p ∈ ps, Good c.srcs.length p.2) ∧
  ∀ H', Ex H0 H' → MnAt K H' x a v (srcV [] c.srcs (colW ps c.srcs.length)) (maskW ps.length) → Q .non H'
def sp_Many_full (K : PySem.W.Frag) : Sp := fun vs H Q _ => ∃ (m : Addr) (b : Int) (a : Addr) (v : V) (gv : Kn) (mask : Int), vs = [.ref m, .int b] ∧ MnAt K H m a v gv mask ∧ RetV (.int (fullW mask b)) H Q
def sp_Many_pin (K : PySem.W.Frag) : Sp := fun vs H Q _ => ∃ (m : Addr) (v : V) (ver : Ver) (gv : V) (g : Gate) (j : Nat) (pk : Addr) (kn : Kn) (y : Str) (i : Int) (a : Addr) (v0 : V) (gv0 : Kn) (mask : Int), vs = [.ref m, gv, .int (j : Int), .ref pk, v] ∧ MnAt K H m a v0 gv0 mask ∧ VerAt K H v ver ∧ VShp ver ∧ GateAt K H gv g ∧ PyData.strOk g.nm = true ∧
  H pk = some (.dK (kn.map kvI)) ∧ g.pins[j]? = some y ∧ kn.lookup y = some i ∧ RetV (.int (((ver.at_ g.nm j).map (fullW mask)).getD i)) H Q
def sp_Many_through (K : PySem.W.Frag) : Sp := fun vs H Q _ => ∃ (m : Addr) (v : V) (pf a : Addr) (v0 : V) (c : Ck) (od : List GV) (ver : Ver) (ws : List Int) (fr : Kn) (mask : Int), vs = [.ref m, v, .ref pf] ∧ MnAt K H m a v0 (srcV [] c.srcs ws) mask ∧ CkUp K H a c od ∧ VerAt K H v ver ∧ VShp ver ∧ ws.length = c.srcs.length ∧
  H pf = some (.dK (fr.map kvI)) ∧ RetF (fun p H2 => H2 p = some (.dK ((runV (gword mask) (fun n i => (ver.at_ n i).map (fullW mask)) fr od (srcV fr c.srcs ws)).map kvI))) H Q
def sp_Many_words (K : PySem.W.Frag) : Sp := fun vs H Q _ => ∃ (m a : Addr) (v : V) (c : Ck) (od : List GV) (ver : Ver) (ws : List Int) (mask : Int), vs = [.ref m] ∧ MnAt K H m a v (srcV [] c.srcs ws) mask ∧ CkUp K H a c od ∧ VerAt K H v ver ∧ ver.Ok c od ∧ ws.length = c.srcs.length ∧
  RetF (fun p H2 => H2 p = some (.dK ((whole (gword mask) (fullW mask) jnW ver c.srcs od ws).map kvI))) H Q
/-- the words of all lines -/
def wordsV (ver : Ver) (c : Ck) (od : List GV) (ps : List PV) : Kn := whole (gword (maskW ps.length)) (fullW (maskW ps.length)) jnW ver c.srcs od (colW ps c.srcs.length)
def sp_words_of (K : PySem.W.Frag) : Sp := fun vs H Q E => ∃ (a : Addr) (v : V) (l : Addr) (c : Ck) (od : List GV) (ver : Ver) (ps : List PV), vs = [.ref a, v, .ref l] ∧ CkUp K H a c od ∧ VerAt K H v ver ∧ ver.Ok c od ∧ PatsAt K H l ps ∧
  (((∀ p ∈ ps, Good c.srcs.length p.2) ∧ RetF (fun p H2 => H2 p = some (.dK ((wordsV ver c od ps).map kvI))) H Q) ∨
   (∃ (gs : List PV) (b : PV), ps = gs ++ [b] ∧ (∀ p ∈ gs, Good c.srcs.length p.2) ∧ b.2.length ≠ c.srcs.length ∧ b.2.length ≤ 40000 ∧ ∀ H2, Ex H H2 → E (BadP K) none H2))
def rowAt (W : Kn) (sinks : List Str) (j : Nat) : List Int := sinks.map fun z => Builtin.bitAnd (lk W z / 2 ^ j) 1
def sp_responses (K : PySem.W.Frag) : Sp := fun vs H Q _ => ∃ (a : Addr) (v : V) (l : Addr) (c : Ck) (od : List GV) (ver : Ver) (ps : List PV), vs = [.ref a, v, .ref l] ∧ CkUp K H a c od ∧ VerAt K H v ver ∧ ver.Ok c od ∧ PatsAt K H l ps ∧ (∀ p ∈ ps, Good c.srcs.length p.2) ∧
  LcW ps.length (fun j v H2 => PatAt K H2 v (rowAt (wordsV ver c od ps) c.sinks j)) H Q
def partW (L R : Kn) (sinks : List Str) : Int := sinks.foldl (fun w z => Builtin.bitOr w (Builtin.bitXor (lk L z) (lk R z))) 0
def sp_parting (K : PySem.W.Frag) : Sp := fun vs H Q _ => ∃ (a : Addr) (v v2 : V) (l : Addr) (c : Ck) (od : List GV) (ver ver2 : Ver) (ps : List PV), vs = [.ref a, v, v2, .ref l] ∧ CkUp K H a c od ∧ VerAt K H v ver ∧ ver.Ok c od ∧ VerAt K H v2 ver2 ∧ ver2.Ok c od ∧ PatsAt K H l ps ∧ (∀ p ∈ ps, Good c.srcs.length p.2) ∧
  RetL (given ps.length (fun i => decide (Builtin.bitAnd (partW (wordsV ver c od ps) (wordsV ver2 c od ps) c.sinks / 2 ^ i) 1 = 1)) fun i => .int (i : Int)) H Q
theorem bitB_small {b : Int} (h : bitB b = true) : 0 ≤ b ∧ b ≤ 1 := by
  rw [bitB, Bool.and_eq_true, decide_eq_true_eq, decide_eq_true_eq] at h
  exact h
theorem cutV_1 (xs : List V) : cutV xs (some 1) none = xs.drop 1 := cutV_from xs 0
section
variable {K : PySem.W.Frag} {σ : L2.St} {H H' : Hp} {td ty tl tk tv ta tb te t1 t2 t3 t4 : TE} {j : Nat} {vs : List Nat} {D : Ends} {tu tz : TS} {sp : Sp} {E : XK} {R : Hp → VK → Prop} {x1 x2 x3 : V} {C : Addr} {m : Str}
theorem eg_call1F {P : Addr → Hp → Prop} (h4 : EvG t4 σ H (RetF P)) (mo : Mo R) (hs : ∀ p H1, Ex H H1 → P p H1 → ∀ Q E, R H1 Q → sp [.ref p] H1 Q E) :
    EvG (tCall sp [] E (tCons t4 tNil)) σ H R := fun H1 e Q q => h4 H1 e _ fun p H5 hp e5 hP => hs p H5 (e.trans e5) hP _ _ (mo _ _ _ e5 q)
theorem eg_meth2F {a dx : Addr} {fs : List (Str × V)} {P : Addr → Hp → Prop} (h : Ev ta σ H (.ref a)) (ho : H a = some (.ins C dx fs)) (hl : fs.lookup m = none) (h1 : Ev t1 σ H x1) (h4 : EvG t4 σ H (RetF P)) (mo : Mo R) (hs : ∀ p H1, Ex H H1 → P p H1 → ∀ Q E, R H1 Q → sp [.ref a, x1, .ref p] H1 Q E) :
    EvG (tMeth C m sp [] E ta (tCons t1 (tCons t4 tNil))) σ H R := fun H1 e Q q =>
  h H1 e _ fun H2 e2 => ⟨a, dx, fs, rfl, (e.trans e2) a _ ho, hl, h1 H2 (e.trans e2) _ fun H3 e3 => h4 H3 ((e.trans e2).trans e3) _ fun p H5 hp e5 hP => hs p H5 (((e.trans e2).trans e3).trans e5) hP _ _ (mo _ _ _ ((e2.trans e3).trans e5) q)⟩
/-- {.. for z, i in d.items()}, d held fast -/
theorem eg_dcItems {gd : Addr} {kn : Kn} {F : Str → Int → Int} {a b : Nat} (hg : H gd = some (.dK (kn.map kvI))) (nd : (kn.map (·.1)).Nodup) (hz : kn.length ≤ 40000)
    (hl : ∀ o H1, Ex H H1 → Ev tl σ (upd H1 gd (.frz o (.dK (kn.map kvI)))) (.ref gd)) (hw : ∀ x y, wipe (((wipe σ vs).set a (some x)).set b (some y)) vs = wipe σ vs)
    (hk : ∀ z i H2, Ev tk (((wipe σ vs).set a (some (.str z))).set b (some (.int i))) H2 (.str z)) (he : ∀ z i o H1, Ex H H1 → (z, i) ∈ kn → Ev tv (((wipe σ vs).set a (some (.str z))).set b (some (.int i))) (upd H1 gd (.frz o (.dK (kn.map kvI)))) (.int (F z i))) :
    EvG (tLockE (tDc (iItems tl) (gTup K 2 (gCons (gName a) (gCons (gName b) gNil))) tYes tk tv vs)) σ H (RetF fun p H2 => H2 p = some (.dK ((kn.map fun q => (q.1, F q.1 q.2)).map kvI))) := fun H1 e Q q => ⟨gd, .dK (kn.map kvI), e gd _ hg, trivial, fun o => by
  have hgf : (upd H1 gd (.frz o (.dK (kn.map kvI)))) gd = some (.frz o (.dK (kn.map kvI))) := upd_same
  refine hl o H1 e _ (Ex.refl _) _ fun H2 e2 => ⟨gd, o, _, rfl, e2 gd _ hgf, fun Dl hD => ?_⟩
  have hlen : (kn.map fun q => (q.1, F q.1 q.2)).map kvI = kn.map fun q => ((Sum.inr q.1 : Key), V.int (F q.1 q.2)) := by
    rw [List.map_map]
    rfl
  have ndk : (((kn.map fun q => (q.1, F q.1 q.2)).map kvI).map (·.1)).Nodup := by
    have e : ((kn.map fun q => (q.1, F q.1 q.2)).map kvI).map (·.1) = (kn.map (·.1)).map Sum.inr := by
      rw [List.map_map, List.map_map, List.map_map]
      rfl
    rw [e]
    exact List.Pairwise.map _ (fun a b hab e => hab (Sum.inr.inj e)) nd
  refine dc_it (walk_items (d := gd) (o := o) (kvs := kn.map kvI)) (DcW H2 ((kn.map fun q => (q.1, F q.1 q.2)).map kvI) Dl) ⟨hD, Ex.new hD, upd_same⟩ (fun i H3 _ p => p.2.1 _ _ (e2 gd _ hgf)) (fun i x H3 H4 hi p y => ?_) (fun H3 p => ?_)
  · obtain ⟨T, u, v, rfl, hT, rfl, hu, hv⟩ := y
    dsimp only at hu hv
    rw [List.getElem?_map] at hu hv
    cases hq : kn[i]? with
    | none => rw [hq] at hu; cases hu
    | some zi =>
      obtain ⟨z, n⟩ := zi
      rw [hq] at hu hv
      cases hu
      cases hv
      have p' : DcW H2 ((kn.map fun q => (q.1, F q.1 q.2)).map kvI) Dl i (upd H3 T (.tup [V.str z, V.int n])) := ⟨p.1, p.2.1.trans (Ex.new hT), by
        rw [upd_ne (ne_of_none p.2.2 hT)]
        exact p.2.2⟩
      refine ⟨T, [V.str z, V.int n], rfl, .inl (.inl upd_same), rfl, V.str z, [V.int n], rfl, V.int n, [], rfl, rfl, hw _ _, ?_⟩
      exact dcW_turn ndk (by simpa using hz) p' (by rw [List.getElem?_map, List.getElem?_map, hq]; rfl) (hk z n _) ((he z n o H1 e (List.mem_of_getElem? hq)).mono e2)
  · have hne : Dl ≠ gd := fun n => by
      have := e2 gd _ hgf
      rw [← n, hD] at this
      cases this
    refine ⟨p.2.1 _ _ (e2 gd _ hgf), q Dl _ ?_ (fun u w hu => ?_) ?_⟩
    · have h1 := fresh_back e2 hD
      rw [upd_ne hne] at h1
      exact h1
    · by_cases hug : u = gd
      · rw [hug, e gd _ hg] at hu
        cases hu
        rw [hug]
        exact upd_same
      · rw [upd_ne hug]
        refine p.2.1 _ _ (e2 _ _ ?_)
        rw [upd_ne hug]
        exact hu
    · show (upd H3 gd (HO.dK (kn.map kvI))) Dl = _
      rw [upd_ne hne]
      have := p.2.2
      have hl2 : (kn.map kvI).length = ((kn.map fun q => (q.1, F q.1 q.2)).map kvI).length := by simp
      rw [hl2, List.take_length] at this
      exact this⟩
end
section
variable {P : Program} {w : World} {K : PySem.W.Frag} {mg : Str → Option Value} {base : Heap}
theorem ok_word_of (T : Tx K mg) (F : DefF K mg "word_of" s_word_of)  : C8.Cal P w K mg base 1 "word_of" (sp_word_of K) [] := by
  refine cal_of F sc_word_of (fun vs H Q E h => by obtain ⟨_, _, rfl, _⟩ := h; rfl) (fun _ _ _ _ _ _ us hl => match us, hl with | [_], _ => rfl) (fun f cdv A outer s H vs Q E hr h => ?_)
  obtain ⟨p, bs, rfl, hx, hb, hl, k⟩ := h
  have hu := hu_of hr
  refine ⟨_, (pss_cons (ps_set (i := 1) sc_word_of.nd rfl (Or.inl rfl) pe_int)
        (pss_cons (ps_for PassesOwn.never rfl (pi_enum rfl T.n_enumerate (pa_cons (pv 0) pa_nil)) (pg_tup rfl (pgs_cons (pg_name (i := 2) sc_word_of.nd rfl (Or.inl rfl)) (pgs_cons (pg_name (i := 3) sc_word_of.nd rfl (Or.inl rfl)) pgs_nil)))
          (pss_one (ps_aug (i := 1) sc_word_of.nd rfl (Or.inl rfl) (pe_op op_shl (pv 3) (pv 2)) ip_or)))
        (pss_one (ps_ret (pv 1))))), ?_⟩
  refine q_asg ev_c fun H1 e1 => ?_
  refine q_forEnumV (ev_var rfl) (ex_l e1 hx) (fun i σ' H' => (∃ v w, σ' = [some (.ref p), some (.int (wordF 0 0 (bs.take i))), v, w]) ∧ Ex H H') (fun H2 e2 => ⟨⟨_, _, rfl⟩, e1.trans e2⟩) (fun i σ' H' _ q => ex_l q.2 hx) (fun i x σ' H' H2 hi q e2 => ?_) (fun σ' H' q => ?_)
  · obtain ⟨⟨v, w, rfl⟩, e⟩ := q
    obtain ⟨b, hbi, rfl⟩ := map_at hi
    obtain ⟨b0, b1⟩ := bitB_small (hb b (List.mem_of_getElem? hbi))
    have hil := (List.getElem?_eq_some_iff.mp hbi).1
    refine s_aug (a := wordF 0 0 (bs.take i)) rfl (ev_op (ev_var rfl) (ev_var rfl) (rv_I ⟨by omega, by omega, by omega⟩)) fun H3 e3 => ⟨⟨some (.int (i : Int)), some (.int b), ?_⟩, (e.trans e2).trans e3⟩
    rw [take_snoc hbi, wordF_snoc, List.length_take, Nat.min_eq_left (by omega), Nat.zero_add, Int.toNat_natCast]
    rfl
  · obtain ⟨⟨v, w, rfl⟩, e⟩ := q
    rw [List.length_map, List.take_length]
    exact s_ret (ev_var rfl) fun H2 e2 => k H2 (e.trans e2)
theorem ok_gate_word (T : Tx K mg) (F : DefF K mg "gate_word" s_gate_word)  : C8.Cal P w K mg base 1 "gate_word" (sp_gate_word K) [] := by
  refine cal_of F sc_gate_word (fun vs H Q E h => by obtain ⟨_, _, _, _, rfl, _⟩ := h; rfl) (fun _ _ _ _ _ _ us hl => match us, hl with | [_, _, _], _ => rfl) (fun f cdv A outer s H vs Q E hr h => ?_)
  obtain ⟨kd, p, ws, mk, rfl, hx, hne, hl, k⟩ := h
  have hu := hu_of hr
  refine ⟨_, (pss_cons (ps_if (pt_cmpR op_in_seq (pv 0) (pe_tup (pa_cons pe_str (pa_cons pe_str pa_nil))) (by rfl))
          (pss_one (ps_ret (pe_ifExp (pt_cmpR op_eq (pv 0) pe_str (nomark _)) (pv 2) pe_int)))
          pss_nil)
        (pss_cons (ps_set (i := 3) sc_gate_word.nd rfl (Or.inl rfl) (pe_ix ix_list (pv 1) pe_int (fun _ _ => rfl)))
        (pss_cons (ps_for PassesOwn.never rfl (pi_list (pe_slice sl_list (pv 1) (po_some pe_int) po_none)) (pg_name (i := 4) sc_gate_word.nd rfl (Or.inl rfl))
          (pss_one (ps_if (pt_cmpR op_in_seq (pv 0) (pe_tup (pa_cons pe_str (pa_cons pe_str pa_nil))) (by rfl))
              (pss_one (ps_aug (i := 3) sc_gate_word.nd rfl (Or.inl rfl) (pv 4) ip_and))
              (pss_one (ps_if (pt_cmpR op_in_seq (pv 0) (pe_tup (pa_cons pe_str (pa_cons pe_str pa_nil))) (by rfl))
                  (pss_one (ps_aug (i := 3) sc_gate_word.nd rfl (Or.inl rfl) (pv 4) ip_or))
                  (pss_one (ps_aug (i := 3) sc_gate_word.nd rfl (Or.inl rfl) (pv 4) ip_xor)))))))
        (pss_cons (ps_if (pt_cmpR op_in_seq (pv 0) (pe_tup (pa_cons pe_str (pa_cons pe_str (pa_cons pe_str (pa_cons pe_str pa_nil))))) (by rfl))
          (pss_one (ps_aug (i := 3) sc_gate_word.nd rfl (Or.inl rfl) (pv 2) ip_xor))
          pss_nil)
        (pss_one (ps_ret (pv 3))))))), ?_⟩
  have eN : inV (.str kd) [.str "nand", .str "nor", .str "xnor", .str "not"] = decide (kd ∈ kN) := inV_str kd kN
  refine q_when (b := decide (kd ∈ k0)) (et_inU (ev_var rfl) (ea_cons ev_c (ea_cons ev_c ea_nil)) (by decide) rfl rfl (inV_str kd k0)) (fun hb H1 e1 => ?_) (fun hb H1 e1 => ?_)
  · have hb := of_decide_eq_true hb
    rw [gword, if_pos hb] at k
    refine s_ret (ev_if (b := decide (kd = "high")) (et_test (ev_is (ev_op (ev_var rfl) ev_c (rv_eq rfl)) ?_)) (fun h => ev_is (ev_var rfl) ?_) fun h => ev_is ev_c ?_) fun H2 e2 => k H2 (e1.trans e2)
    · congr 1
      rw [Bool.eq_iff_iff]
      simp
    · rw [if_pos (of_decide_eq_true h)]
    · rw [if_neg (of_decide_eq_false h)]
  · have hb := of_decide_eq_false hb
    have hne : ws ≠ [] := hne.resolve_left hb
    rw [gword, if_neg hb] at k
    have h0 : ws[0]? = some (ws.getD 0 0) := by
      cases ws with
      | nil => exact absurd rfl hne
      | cons x r => rfl
    have hx1 := ex_l e1 hx
    refine q_asg (ev_op (ev_var rfl) ev_c (rv_ixL hx1 (atI_nat (j := 0) (v := .int (ws.getD 0 0)) (by rw [List.getElem?_map, h0]; rfl)))) fun H2 e2 => ?_
    have e12 := e1.trans e2
    refine q_forNLn (el_sl (ev_var rfl) (eo_some ev_c) eo_none (ex_l e12 hx)) (fun pd i σ' H' => (∃ v, σ' = [some (.str kd), some (.ref p), some (.int mk), some (.int (((ws.drop 1).take i).foldl (foldW kd) (ws.getD 0 0))), v]) ∧ Ex H H' ∧ H' pd = some (.lst ((ws.drop 1).map V.int)))
      (fun pd H3 hp e3 h3 => ⟨⟨_, rfl⟩, e12.trans e3, by rw [h3, cutV_1, List.map_drop]⟩) (fun pd i σ' H' _ q => by rw [cutV_1, ← List.map_drop]; exact sq_of q.2.2) (fun pd i x σ' H' hi q => ?_) (fun pd σ' H' q => ?_)
    · obtain ⟨⟨v, rfl⟩, e, hd⟩ := q
      rw [cutV_1, ← List.map_drop] at hi
      obtain ⟨o, ho, rfl⟩ := map_at hi
      have hst : ∀ o' : Int, o' = foldW kd (((ws.drop 1).take i).foldl (foldW kd) (ws.getD 0 0)) o → o' = ((ws.drop 1).take (i + 1)).foldl (foldW kd) (ws.getD 0 0) := fun o' h => by
        rw [h, take_snoc ho, List.foldl_append]
        rfl
      refine s_if (b := decide (kd ∈ kAn)) (et_inU (ev_var rfl) (ea_cons ev_c (ea_cons ev_c ea_nil)) (by decide) rfl rfl (inV_str kd kAn)) (fun hA H3 e3 => ?_) (fun hA H3 e3 => ?_)
      · refine s_aug (a := ((ws.drop 1).take i).foldl (foldW kd) (ws.getD 0 0)) rfl (ev_var rfl) fun H4 e4 => ⟨⟨some (.int o), ?_⟩, (e.trans e3).trans e4, e4 _ _ (e3 _ _ hd)⟩
        rw [← hst _ (by rw [foldW, if_pos (of_decide_eq_true hA)])]
        rfl
      · refine s_if (b := decide (kd ∈ kO)) (et_inU (ev_var rfl) (ea_cons ev_c (ea_cons ev_c ea_nil)) (by decide) rfl rfl (inV_str kd kO)) (fun hO H4 e4 => ?_) (fun hO H4 e4 => ?_)
        · refine s_aug (a := ((ws.drop 1).take i).foldl (foldW kd) (ws.getD 0 0)) rfl (ev_var rfl) fun H5 e5 => ⟨⟨some (.int o), ?_⟩, ((e.trans e3).trans e4).trans e5, e5 _ _ (e4 _ _ (e3 _ _ hd))⟩
          rw [← hst _ (by rw [foldW, if_neg (of_decide_eq_false hA), if_pos (of_decide_eq_true hO)])]
          rfl
        · refine s_aug (a := ((ws.drop 1).take i).foldl (foldW kd) (ws.getD 0 0)) rfl (ev_var rfl) fun H5 e5 => ⟨⟨some (.int o), ?_⟩, ((e.trans e3).trans e4).trans e5, e5 _ _ (e4 _ _ (e3 _ _ hd))⟩
          rw [← hst _ (by rw [foldW, if_neg (of_decide_eq_false hA), if_neg (of_decide_eq_false hO)])]
          rfl
    · obtain ⟨⟨v, rfl⟩, e, hd⟩ := q
      have ht : (ws.drop 1).take (cutV (ws.map V.int) (some 1) none).length = ws.drop 1 := by
        rw [cutV_1, ← List.map_drop, List.length_map, List.take_length]
      rw [ht]
      refine q_when (b := decide (kd ∈ kN)) (et_inU (ev_var rfl) (ea_cons ev_c (ea_cons ev_c (ea_cons ev_c (ea_cons ev_c ea_nil)))) (by decide) rfl rfl eN) (fun hN H3 e3 => ?_) (fun hN H3 e3 => ?_)
      · rw [if_pos (of_decide_eq_true hN)] at k
        refine s_aug (a := (ws.drop 1).foldl (foldW kd) (ws.getD 0 0)) rfl (ev_var rfl) fun H4 e4 => ?_
        exact s_ret (ev_var rfl) fun H5 e5 => k H5 (((e.trans e3).trans e4).trans e5)
      · rw [if_neg (of_decide_eq_false hN)] at k
        exact s_ret (ev_var rfl) fun H5 e5 => k H5 ((e.trans e3).trans e5)
theorem ok_Many_full (T : Tx K mg) (F : DefM K (He.ga K "Many") "full" "Many.full" s_Many_full)  : C8.Met P w K mg base 1 (He.ga K "Many") "full" (sp_Many_full K) [] := by
  refine met_of T.clMany F sc_Many_full (fun vs H Q E h => by obtain ⟨_, _, _, _, _, _, rfl, _⟩ := h; rfl) (fun _ _ _ _ _ _ us hl => match us, hl with | [_, _], _ => rfl) (fun f cdv A outer s H vs Q E hr h => ?_)
  obtain ⟨m, b, a, v, gv, mask, rfl, ⟨dx, fs, gd, hm⟩, k⟩ := h
  have hu := hu_of hr
  refine ⟨_, (pss_one (ps_ret (pe_ifExp (pt_cmpR op_eq (pv 1) pe_int (nomark _)) (pe_fld (pv 0) rfl) pe_int))), ?_⟩
  refine s_ret (ev_if (b := decide (b = 1)) (et_test (ev_is (ev_op (ev_var rfl) ev_c (rv_eq rfl)) ?_)) (fun h => ev_is (ev_fld (ev_var rfl) hm.ob T.clMany T.nm_mask hm.lm) ?_) fun h => ev_is ev_c ?_) k
  · congr 1
    rw [Bool.eq_iff_iff]
    simp
  · rw [fullW, if_pos (of_decide_eq_true h)]
  · rw [fullW, if_neg (of_decide_eq_false h)]
theorem ok_Many_pin (T : Tx K mg) (F : DefM K (He.ga K "Many") "pin" "Many.pin" s_Many_pin) (g_Many_full : C8.Met P w K mg base 1 (He.ga K "Many") "full" (sp_Many_full K) []) (g_stuck_pin : C8.Cal P w K mg base 1 "stuck_pin" (sp_stuck_pin K) []) : C8.Met P w K mg base 2 (He.ga K "Many") "pin" (sp_Many_pin K) [] := by
  refine met_of T.clMany F sc_Many_pin (fun vs H Q E h => by obtain ⟨_, _, _, _, _, _, _, _, _, _, _, _, _, _, rfl, _⟩ := h; rfl) (fun _ _ _ _ _ _ us hl => match us, hl with | [_, _, _, _, _], _ => rfl) (fun f cdv A outer s H vs Q E hr h => ?_)
  obtain ⟨m, v, ver, gv, g, j, pk, kn, y, i, a, v0, gv0, mask, rfl, hm, hv, hsh, hg, hstr, hd, hy, hi, k⟩ := h
  have hu := hu_of hr
  refine ⟨_, (pss_cons (ps_set (i := 5) sc_Many_pin.nd rfl (Or.inl rfl) (C8.pe_c g_stuck_pin hr (by decide) rfl (pa_cons (pv 4) (pa_cons (pe_ix ix_tup (pv 1) pe_int (fun _ _ => rfl)) (pa_cons (pv 2) pa_nil)))))
        (pss_one (ps_ret (pe_ifExp (pt_cmpR op_isN1 (pv 5) pe_non (nomark _)) (pe_dget hu (pv 3) (pe_ix ix_tup (pe_ix ix_tup (pv 1) pe_int (fun _ _ => rfl)) (pv 2) (fun _ _ => rfl)) (fun _ _ => rfl)) (C8.pe_mt g_Many_full hr (by decide) (pv 0) (pa_cons (pv 5) pa_nil)))))), ?_⟩
  obtain ⟨ag, q, rfl, h2, h3⟩ := id hg
  obtain ⟨dx, fs, gd, hmo⟩ := id hm
  refine q_asg (ev_g (eg_call (ea_cons (ev_var rfl) (ea_cons (ev_op (ev_var rfl) ev_c (rv_ixT h2 rfl)) (ea_cons (ev_var rfl) ea_nil))) mo_V fun H1 e Q E q => ⟨v, ver, g.nm, j, rfl, hv.mono e, hsh, hstr, q⟩)) fun H1 e1 => ?_
  cases hst : ver.at_ g.nm j with
  | none =>
    rw [hst] at k
    exact s_ret (ev_if (b := true) (et_test (ev_is (ev_op (ev_var rfl) ev_c rv_isN) (by decide +kernel))) (fun _ => ev_dget (ev_var rfl) (ev_op (ev_op (ev_var rfl) ev_c (rv_ixT (ex_t e1 h2) rfl)) (ev_var rfl) (rv_ixT (ex_t e1 h3) (atI_nat (by rw [List.getElem?_map, hy]; rfl)))) (.inl (e1 _ _ hd)) (by rw [valV_kvI, hi]; rfl)) fun q => nomatch q) fun H2 e2 => k H2 (e1.trans e2)
  | some b =>
    rw [hst] at k
    exact s_ret (ev_if (b := false) (et_test (ev_is (ev_op (ev_var rfl) ev_c rv_isN) (by rfl))) (fun q => nomatch q) fun _ => ev_g (eg_meth (ev_var rfl) (e1 _ _ hmo.ob) (hmo.nom "full" (by decide)) (ea_cons (ev_var rfl) ea_nil) mo_V fun H2 e2 Q E q => ⟨m, b, a, v0, gv0, mask, rfl, hm.mono (e1.trans e2), q⟩)) fun H2 e2 => k H2 (e1.trans e2)
end
end Pw


namespace Pw
open PySem PySem.Spec PyProof.Rows L2 Evl
theorem srcV_nil (zs : List Str) (ws : List Int) : srcV [] zs ws = zs.zip ws := by
  rw [srcV]
  show (zs.zip ws).map (fun q => (q.1, q.2)) = _
  rw [List.map_id'' (fun q => rfl)]
theorem srcV_fr (fr : Kn) (zs : List Str) (ws : List Int) : (srcV [] zs ws).map (fun q => (q.1, (fr.lookup q.1).getD q.2)) = srcV fr zs ws := by
  rw [srcV_nil]
  rfl
theorem colW_len (ps : List PV) (n : Nat) : (colW ps n).length = n := by simp [colW]
theorem colW_at {ps : List PV} {n j : Nat} (h : j < n) : (colW ps n)[j]? = some (wordO (ps.map fun p => p.2.getD j 0)) := by
  rw [colW, List.getElem?_map, List.getElem?_range h]
  rfl
theorem getD_at {α : Type} {l : List α} {j : Nat} {d : α} (h : j < l.length) : l[j]? = some (l.getD j d) := by
  rw [List.getD_eq_getElem?_getD, List.getElem?_eq_getElem h]
  rfl
section
variable {P : Program} {w : World} {K : PySem.W.Frag} {mg : Str → Option Value} {base : Heap}
theorem ok_Many___init__ (T : Tx K mg) (F : DefI K mg "Many" (He.ga K "Many") "Many.__init__" s_Many___init__) (g_Circuit_sources : C8.Met P w K mg base 1 (He.ga K "Circuit") "sources" (sp_Circuit_sources K) []) (g_word_of : C8.Cal P w K mg base 1 "word_of" (sp_word_of K) []) : C8.Mak P w K mg base 2 "Many" (He.ga K "Many") (sp_Many___init__ K) [] := by
  refine mak_of F sc_Many___init__ (fun vs H Q E h => by obtain ⟨_, _, _, _, _, _, _, _, rfl, _⟩ := h; rfl) (fun _ _ _ _ _ _ us hl => match us, hl with | [_, _, _, _], _ => rfl) (fun f cdv A outer s H vs Q E hr h => ?_)
  obtain ⟨x, a, v, l, c, od, ps, H0, rfl, eH, hx0, ⟨dx, hx⟩, hc, hps, hgood, k⟩ := h
  have hu := hu_of hr
  refine ⟨_, (pss_cons (ps_fld (pv 0) (pv 1) rfl)
        (pss_cons (ps_fld (pv 0) (pv 2) rfl)
        (pss_cons (ps_fld (pv 0) (pe_op op_sub (pe_op op_shl pe_int (pe_callB call_len_seq (by rfl) T.n_len PySem.boot_len (pa_cons (pv 3) pa_nil))) pe_int) rfl)
        (pss_cons (ps_fld (pv 0) pe_dnewK rfl)
        (pss_one (ps_for PassesOwn.never rfl (pi_enum rfl T.n_enumerate (pa_cons (C8.pe_mt0 g_Circuit_sources hr (by decide) (pv 1)) pa_nil)) (pg_tup rfl (pgs_cons (pg_name (i := 4) sc_Many___init__.nd rfl (Or.inr rfl)) (pgs_cons (pg_name (i := 5) sc_Many___init__.nd rfl (Or.inl rfl)) pgs_nil)))
          (pss_one (ps_dput hu (pe_fld (pv 0) rfl) (pv 5) (C8.pe_c g_word_of hr (by decide) rfl (pa_cons (pe_lc (own := [("pattern", 6)]) (g := gName 6) (tt := tYes) rfl sc_Many___init__.nd (pi_list (pv 3)) (blkOk_by (N := ["self", "circuit", "version", "patterns", "index", "line", "pattern"]) (sc := defScope s_Many___init__) (by decide +kernel)) (fun _ _ _ _ _ => (pg_name (i := 6) sc_Many___init__.nd rfl (Or.inl rfl))) (fun _ _ _ _ _ => pts_nil) (fun _ _ _ _ _ => (pe_ix (r := rIxT K) ix_tup (pv 6) (pv 4) (fun _ _ => rfl)))) pa_nil)) rfl)))))))), ?_⟩
  obtain ⟨dx2, fs2, ti, tr, tg, to, hp⟩ := id hc.at_.parts
  have hsl : c.srcs.length ≤ 40 := hc.ok.names.sn
  refine q_fldput hx T.clMany T.nm_circuit (by simp) (ev_var rfl) (ev_var rfl) fun H1 e1 => ?_
  have eb1 : Ex H0 (upd H1 x (.ins (He.ga K "Many") dx (putF "circuit" (.ref a) []))) := Ex.mut (eH.trans e1) hx0
  refine q_fldput upd_same T.clMany T.nm_version (show 1 < 1000 by decide) (ev_var rfl) (ev_var rfl) fun H2 e2 => ?_
  have eb2 : Ex H0 (upd H2 x (.ins (He.ga K "Many") dx (putF "version" v (putF "circuit" (.ref a) [])))) := Ex.mut (eb1.trans e2) hx0
  refine q_fldput upd_same T.clMany T.nm_mask (show 2 < 1000 by decide) (ev_var rfl) (ev_op (ev_op ev_c (ev_len (ev_var rfl) (ex_l eb2 hps.sq)) (rv_I ⟨by omega, ?_, by decide⟩)) ev_c rv_I0) fun H3 e3 => ?_
  · have := hps.few
    rw [List.length_map]
    omega
  have eb3 : Ex H0 (upd H3 x (.ins (He.ga K "Many") dx (putF "mask" (.int (1 * 2 ^ ((ps.map (·.1)).length : Int).toNat - 1)) (putF "version" v (putF "circuit" (.ref a) []))))) := Ex.mut (eb2.trans e3) hx0
  have em : (1 * 2 ^ ((ps.map (·.1)).length : Int).toNat - 1 : Int) = maskW ps.length := by rw [List.length_map, Int.toNat_natCast]; rfl
  refine q_fldputF upd_same T.clMany T.nm_given (show 3 < 1000 by decide) (ev_var rfl) eg_dnew ?_
  rintro gd H4 hgd e4 ⟨H4', hg4, e4'⟩
  rw [em]
  let fs : List (Str × V) := [("circuit", .ref a), ("version", v), ("mask", .int (maskW ps.length)), ("given", .ref gd)]
  have ef : putF "given" (.ref gd) (putF "mask" (.int (maskW ps.length)) (putF "version" v (putF "circuit" (.ref a) []))) = fs := by rfl
  rw [ef]
  have hgx : gd ≠ x := fun n => by rw [n, upd_same] at hgd; cases hgd
  have hgd0 : H0 gd = none := fresh_back eb3 hgd
  have eb4 : Ex H0 (upd H4 x (.ins (He.ga K "Many") dx fs)) := Ex.mut (eb3.trans e4) hx0
  have ox : (upd H4 x (.ins (He.ga K "Many") dx fs)) x = some (.ins (He.ga K "Many") dx fs) := upd_same
  have og : (upd H4 x (.ins (He.ga K "Many") dx fs)) gd = some (.dK []) := by
    rw [upd_ne hgx]
    exact e4' _ _ hg4
  generalize upd H4 x (.ins (He.ga K "Many") dx fs) = J at eb4 ox og ⊢
  have hkey := srcV_keys [] (zs := c.srcs) (ws := colW ps c.srcs.length) (colW_len _ _).symm
  have hsvl : (srcV [] c.srcs (colW ps c.srcs.length)).length = c.srcs.length := by rw [← List.length_map (f := (·.1)), hkey]
  refine s_forEnumN (eg_sources (ev_var rfl) (hc.mono eb4).at_.parts) (fun pl i σ' H' => (∃ v4 v5 v6, σ' = [some (.ref x), some (.ref a), some v, some (.ref l), v4, v5, v6]) ∧ Ex H0 H' ∧ H' x = some (.ins (He.ga K "Many") dx fs) ∧ H' gd = some (.dK (((srcV [] c.srcs (colW ps c.srcs.length)).take i).map kvI)) ∧ H' pl = some (.lst (c.srcs.map V.str)))
    (fun pl H5 hpl e5 hl5 => ⟨⟨_, _, _, rfl⟩, eb4.trans e5, e5 _ _ ox, e5 _ _ og, hl5⟩) (fun pl i σ' H' _ q => sq_of q.2.2.2.2) (fun pl i y σ' H' H5 hi q e5 => ?_) (fun pl σ' H' q => ?_)
  · obtain ⟨⟨v4, v5, v6, rfl⟩, e, hox, hog, hol⟩ := q
    obtain ⟨z, hz, rfl⟩ := map_at hi
    have hil := (List.getElem?_eq_some_iff.mp hz).1
    have ee := e.trans e5
    refine s_dput (z := z) (e5 _ _ hog) (by rw [List.length_map, List.length_take]; omega) (ev_g (eg_call1F (P := fun p H2 => H2 p = some (.lst ((ps.map fun p : PV => p.2.getD i 0).map V.int))) (EvL.toF (el_mapL (ys := (ps.map fun p : PV => p.2.getD i 0).map V.int) (ev_var rfl) (ex_l ee hps.sq) (by have := hps.few; rw [List.length_map]; omega) (by simp) (fun _ => rfl) fun j y u H6 e6 hy hu => ?_)) mo_V fun p H6 e6 hp6 Q E q => ⟨p, _, rfl, sq_of hp6, ?_, by rw [List.length_map]; exact hps.few, q⟩)) (ev_fld (ev_var rfl) (e5 _ _ hox) T.clMany T.nm_given rfl) (ev_var rfl) fun H6 e6 => ⟨⟨_, _, _, rfl⟩, Ex.mut (ee.trans e6) hgd0, ?_, ?_, ?_⟩
    · obtain ⟨p, hp, rfl⟩ := map_at hy
      rw [List.map_map, List.getElem?_map, hp] at hu
      cases hu
      have hpm := List.mem_of_getElem? hp
      obtain ⟨q, hq1, hq2⟩ := (hps.at_ p hpm).mono (ee.trans e6)
      have hlen := (hgood p hpm).1
      exact ev_op (ev_var (by rw [hq1]; rfl)) (ev_var rfl) (rv_ixT hq2 (atI_nat (by rw [List.getElem?_map, getD_at (d := 0) (by omega)]; rfl)))
    · intro b hb
      obtain ⟨p, hp, rfl⟩ := List.mem_map.mp hb
      obtain ⟨hlen, hall⟩ := hgood p hp
      have := getD_at (l := p.2) (j := i) (d := 0) (by omega)
      exact List.all_eq_true.mp hall _ (List.mem_of_getElem? this)
    · rw [upd_ne (Ne.symm hgx)]
      exact e6 _ _ (e5 _ _ hox)
    · have hsi : (srcV [] c.srcs (colW ps c.srcs.length))[i]? = some (z, wordO (ps.map fun p : PV => p.2.getD i 0)) := by
        rw [srcV_nil]
        exact (List.getElem?_zip_eq_some (z := (z, _))).mpr ⟨hz, colW_at hil⟩
      rw [upd_same, putK_kvI, ← take_snoc hsi]
      rw [List.map_take, hkey]
      exact nd_take (List.nodup_append.mp hc.ok.nd).1 hz
    · rw [upd_ne (ne_of hol hog (by intro q; cases q))]
      exact e6 _ _ (e5 _ _ hol)
  · obtain ⟨⟨v4, v5, v6, rfl⟩, e, hox, hog, hol⟩ := q
    rw [List.length_map, List.take_of_length_le (by omega)] at hog
    refine k H' e ⟨dx, fs, gd, hox, rfl, rfl, rfl, rfl, fun q hq => ?_, hog⟩
    exact lookup_none_of (by
      show q ∉ [("circuit" : Str), "version", "mask", "given"]
      exact (by decide +kernel : ∀ q ∈ mmeths, q ∉ [("circuit" : Str), "version", "mask", "given"]) q hq)
theorem ok_Many_through (T : Tx K mg) (F : DefM K (He.ga K "Many") "through" "Many.through" s_Many_through) (g_Many_pin : C8.Met P w K mg base 2 (He.ga K "Many") "pin" (sp_Many_pin K) []) (g_gate_word : C8.Cal P w K mg base 1 "gate_word" (sp_gate_word K) []) : C8.Met P w K mg base 3 (He.ga K "Many") "through" (sp_Many_through K) [] := by
  refine met_of T.clMany F sc_Many_through (fun vs H Q E h => by obtain ⟨_, _, _, _, _, _, _, _, _, _, _, rfl, _⟩ := h; rfl) (fun _ _ _ _ _ _ us hl => match us, hl with | [_, _, _], _ => rfl) (fun f cdv A outer s H vs Q E hr h => ?_)
  obtain ⟨m, v, pf, a, v0, c, od, ver, ws, fr, mask, rfl, hm, hc, hv, hsh, hlen, hfr, k⟩ := h
  have hu := hu_of hr
  refine ⟨_, (pss_cons (ps_set (i := 3) sc_Many_through.nd rfl (Or.inr rfl) (pe_lock (pe_dc (own := [("line", 4), ("word", 5)]) (g := gTup K 2 (gCons (gName 4) (gCons (gName 5) gNil))) (tt := tYes) rfl sc_Many_through.nd (pi_items (pe_fld (pv 0) rfl)) (blkOk_by (N := ["self", "version", "forced", "known", "line", "word", "gate", "words", "index"]) (sc := defScope s_Many_through) (by decide +kernel)) (fun _ _ _ _ _ => (pg_tup rfl (pgs_cons (pg_name (i := 4) sc_Many_through.nd rfl (Or.inl rfl)) (pgs_cons (pg_name (i := 5) sc_Many_through.nd rfl (Or.inl rfl)) pgs_nil)))) (fun _ _ _ _ _ => pts_nil) (fun _ _ _ _ _ => (pv 4)) (fun _ _ _ _ _ => (pe_dget2 hu (pv 2) (pv 4) (pv 5) ⟨rfl, rfl, rfl, rfl⟩)))))
        (pss_cons (ps_for PassesOwn.never rfl (pi_list (pe_fld (pe_fld (pv 0) rfl) rfl)) (pg_name (i := 6) sc_Many_through.nd rfl (Or.inr rfl))
          (pss_cons (ps_setLc (i := 7) (own := [("index", 8)]) (g := gName 8) (tt := tYes) rfl sc_Many_through.nd rfl rfl (sw_true rfl rfl rfl (by decide +kernel)) (pi_range1 rfl T.n_range (pa_cons (pe_callB call_len_seq (by rfl) T.n_len PySem.boot_len (pa_cons (pe_ix ix_tup (pv 6) pe_int (fun _ _ => rfl)) pa_nil)) pa_nil)) (blkOk_by (N := ["self", "version", "forced", "known", "line", "word", "gate", "words", "index"]) (sc := defScope s_Many_through) (by decide +kernel)) (fun _ _ _ _ _ => (pg_name (i := 8) sc_Many_through.nd rfl (Or.inl rfl))) (fun _ _ _ _ _ => pts_nil) (fun _ _ _ _ _ => (C8.pe_mt g_Many_pin hr (by decide) (pv 0) (pa_cons (pv 6) (pa_cons (pv 8) (pa_cons (pv 3) (pa_cons (pv 1) pa_nil)))))))
            (pss_one (ps_dput hu (pv 3) (pe_ix ix_tup (pv 6) pe_int (fun _ _ => rfl)) (pe_dget2 hu (pv 2) (pe_ix ix_tup (pv 6) pe_int (fun _ _ => rfl)) (C8.pe_c g_gate_word hr (by decide) rfl (pa_cons (pe_ix ix_tup (pv 6) pe_int (fun _ _ => rfl)) (pa_cons (pv 7) (pa_cons (pe_fld (pv 0) rfl) pa_nil)))) ⟨rfl, rfl, rfl, rfl⟩) rfl))))
        (pss_one (ps_ret (pv 3))))), ?_⟩
  obtain ⟨dx, fs, lo, o1, o2, o3, o4, o5, o6, o7⟩ := hc.at_.ord
  obtain ⟨dx2, fs2, gd, hmo⟩ := id hm
  have hkey := srcV_keys fr (zs := c.srcs) (ws := ws) hlen.symm
  have hkey0 := srcV_keys [] (zs := c.srcs) (ws := ws) hlen.symm
  have hnd := hc.ok.nd
  have hsl : c.srcs.length ≤ 40 := hc.ok.names.sn
  have hsvl : (srcV [] c.srcs ws).length = c.srcs.length := by rw [← List.length_map (f := (·.1)), hkey0]
  have hsvl2 : (srcV fr c.srcs ws).length = c.srcs.length := by rw [← List.length_map (f := (·.1)), hkey]
  have hmg : m ≠ gd := ne_of hmo.ob hmo.dg (by intro q; cases q)
  refine q_asgG (eg_dcItems (F := fun z i => (fr.lookup z).getD i) hmo.dg (by rw [hkey0]; exact (List.nodup_append.mp hnd).1) (by omega) (fun o H1 e => ev_fld (ev_var rfl) (by rw [upd_ne hmg]; exact e _ _ hmo.ob) T.clMany T.nm_given hmo.lg) (fun x y => rfl) (fun z i H2 => ev_var rfl) fun z i o H1 e hzi => ev_dget2 (ev_var rfl) (ev_var rfl) (ev_var rfl) ?_ (getK fr z i)) ?_
  · by_cases h : pf = gd
    · have h2 := hmo.dg
      rw [← h, hfr] at h2
      rw [Option.some.inj h2, h]
      exact .inr ⟨o, upd_same⟩
    · left
      rw [upd_ne h]
      exact e _ _ hfr
  rw [srcV_fr]
  intro p H1 hp1 e1 hd
  refine q_forLn (ev_fld (ev_fld (ev_var rfl) (e1 _ _ hmo.ob) T.clMany T.nm_circuit hmo.lc) (e1 _ _ o1) T.clCircuit T.na_order o2) (ex_l e1 o4) (fun i σ' H' => (∃ v4 v5 v6 v7, σ' = [some (.ref m), some v, some (.ref pf), some (.ref p), v4, v5, v6, v7, none]) ∧ Ex H H' ∧ H' p = some (.dK ((runV (gword mask) (fun n i => (ver.at_ n i).map (fullW mask)) fr (od.take i) (srcV fr c.srcs ws)).map kvI)))
    (fun H2 e2 => ⟨⟨_, _, _, _, rfl⟩, e1.trans e2, e2 _ _ hd⟩) (fun i σ' H' _ q => ex_l q.2.1 o4) (fun i x σ' H' hi q => ?_) (fun σ' H' q => ?_)
  · obtain ⟨⟨v4, v5, v6, v7, rfl⟩, e, hd⟩ := q
    obtain ⟨g, hg, rfl⟩ := map_at hi
    have hgm := List.mem_of_getElem? hg
    have hgc := hc.ok.perm.mem_iff.mp hgm
    have hgat := (o5 g hgm).mono e
    have hpl := o7 g hgm
    have hstr := U_str _ (hc.ok.forms.gt g hgc).1
    obtain ⟨ag, q, g1, g2, g3⟩ := id hgat
    have hin := topo_at hc.ok.topo hg
    have hkeys : (runV (gword mask) (fun n i => (ver.at_ n i).map (fullW mask)) fr (od.take i) (srcV fr c.srcs ws)).map (·.1) = c.srcs ++ nms (od.take i) := by rw [runV_keys, hkey]
    have hil := (List.getElem?_eq_some_iff.mp hg).1
    have hknl : (runV (gword mask) (fun n i => (ver.at_ n i).map (fullW mask)) fr (od.take i) (srcV fr c.srcs ws)).length ≤ 140 := by
      rw [← List.length_map (f := (·.1)), hkeys, List.length_append, nms, List.length_map, List.length_take]
      omega
    generalize hR : runV (gword mask) (fun n i => (ver.at_ n i).map (fullW mask)) fr (od.take i) (srcV fr c.srcs ws) = kn at hd hkeys hknl
    refine q_asgL (el_mapR (n := g.2.pins.length) (ys := (pinsV (fun n i => (ver.at_ n i).map (fullW mask)) kn g.2).map V.int) (ea_cons (ev_is (ev_lenT (ev_op (ev_var (by rw [g1]; rfl)) ev_c (rv_ixT g2 rfl)) g3) (by rw [List.length_map])) ea_nil) (by omega) (by simp [pinsV]) (fun _ => rfl) fun j y H2 e2 hj hy => ?_) fun pb H2 hpb e2 hbl => ?_
    · obtain ⟨yv, hyv, rfl⟩ := map_at hy
      rw [pinsV, List.getElem?_map, List.getElem?_range hj] at hyv
      have hyv := Option.some.inj hyv
      subst hyv
      have hpj : g.2.pins[j]? = some g.2.pins[j] := List.getElem?_eq_getElem hj
      have hgd : g.2.pins.getD j "" = g.2.pins[j] := by rw [List.getD_eq_getElem?_getD, hpj]; rfl
      show Ev _ _ _ (V.int (((ver.at_ g.2.nm j).map (fullW mask)).getD (lk _ (g.2.pins.getD j ""))))
      rw [hgd]
      refine ev_g (eg_meth (ev_var rfl) (e2 _ _ (e _ _ hmo.ob)) (hmo.nom "pin" (by decide)) (ea_cons (ev_var rfl) (ea_cons (ev_var rfl) (ea_cons (ev_var rfl) (ea_cons (ev_var rfl) ea_nil)))) mo_V fun H3 e3 Q E q => ⟨m, v, ver, g.1, g.2, j, p, kn, g.2.pins[j], _, a, v0, _, mask, rfl, hm.mono ((e.trans e2).trans e3), hv.mono ((e.trans e2).trans e3), hsh, (hgat.mono e2).mono e3, hstr, e3 _ _ (e2 _ _ hd), hpj, lk_of ?_, q⟩)
      rw [hkeys]
      exact hin _ (List.getElem_mem hj)
    · have hws : g.2.kd ∈ k0 ∨ pinsV (fun n i => (ver.at_ n i).map (fullW mask)) kn g.2 ≠ [] := by
        have hl : (pinsV (fun n i => (ver.at_ n i).map (fullW mask)) kn g.2).length = g.2.pins.length := by simp [pinsV]
        rcases (hc.ok.forms.gt g hgc).2.2 with ⟨h, _⟩ | ⟨_, h⟩ | ⟨_, h, _⟩
        · exact .inl h
        · right
          intro n
          rw [n] at hl
          simp at hl
          omega
        · right
          intro n
          rw [n] at hl
          simp at hl
          omega
      refine s_dput (z := g.2.nm) (e2 _ _ hd) (by rw [List.length_map]; omega) (ev_dget2 (ev_var rfl) (ev_op (ev_var (by rw [g1]; rfl)) ev_c (rv_ixT (ex_t e2 g2) rfl)) (ev_g (eg_call (ea_cons (ev_op (ev_var (by rw [g1]; rfl)) ev_c (rv_ixT (ex_t e2 g2) rfl)) (ea_cons (ev_var rfl) (ea_cons (ev_fld (ev_var rfl) (e2 _ _ (e _ _ hmo.ob)) T.clMany T.nm_mask hmo.lm) ea_nil))) mo_V fun H3 e3 Q E q => ⟨g.2.kd, pb, _, mask, rfl, sq_of (e3 _ _ hbl), hws, by simp [pinsV]; omega, q⟩)) (.inl ((e.trans e2) _ _ hfr)) (getK fr g.2.nm _)) (ev_var rfl) (ev_op (ev_var (by rw [g1]; rfl)) ev_c (rv_ixT (ex_t e2 g2) rfl)) fun H3 e3 => ⟨⟨_, _, _, _, rfl⟩, Ex.mut ((e.trans e2).trans e3) hp1, ?_⟩
      rw [upd_same, putK_kvI, runV_snoc hg, hR]
      · rfl
      · rw [hkeys]
        have h3 := hnd
        rw [← List.take_append_drop i od, nms_append, ← List.append_assoc] at h3
        have hdr : od.drop i = g :: od.drop (i + 1) := by
          rw [List.drop_eq_getElem_cons hil]
          congr 1
          exact (List.getElem?_eq_some_iff.mp hg).2
        rw [hdr] at h3
        intro hm
        exact (List.nodup_append.mp h3).2.2 g.2.nm hm g.2.nm (by simp [nms]) rfl
  · obtain ⟨⟨v4, v5, v6, v7, rfl⟩, e, hd⟩ := q
    rw [List.length_map, List.take_length] at hd
    exact s_ret (v := .ref p) (ev_var rfl) fun H2 e2 => k p H2 hp1 (e.trans e2) (e2 _ _ hd)
end
end Pw


namespace Pw
open PySem PySem.Spec PyProof.Rows L2 Evl
section
variable {K : PySem.W.Frag} {σ : L2.St} {H H' : Hp} {ta : TA} {D : Ends} {tu tz : TS} {v w : V}
theorem q_par {i j : Nat} (h : EvA ta σ H [v, w]) (k : ∀ H1, Ex H H1 → tz D ((σ.set i (some v)).set j (some w)) H1) : tSeq (tPar i j ta) tz D σ H := h H (Ex.refl H) _ fun H1 e => ⟨v, w, rfl, k H1 e⟩
end
section
variable {K : PySem.W.Frag} {σ : L2.St} {H H' : Hp} {t : TA} {D : Ends} {sp : Sp} {E : L2.St → XK} {vs : List V}
theorem s_dropS (h : EvA t σ H vs) (hs : ∀ H1, Ex H H1 → sp vs H1 (fun _ H2 => D.nx σ H2) (E σ)) : tDrop (tCallS sp E t) D σ H := h H (Ex.refl H) _ hs
end
abbrev inner_responses : Scope := { kind := ScopeKind.function, names := [(".0", NameKind.local), ("index", NameKind.cell), ("tuple", NameKind.globalImplicit), ("rows", NameKind.cell)], isGenerator := false, isCoroutine := false }
theorem Good.len {n : Nat} {bs : List Int} (h : Good n bs) : bs.length = n := h.1
section
variable {P : Program} {w : World} {K : PySem.W.Frag} {mg : Str → Option Value} {base : Heap}
theorem ok_Many_words (T : Tx K mg) (F : DefM K (He.ga K "Many") "words" "Many.words" s_Many_words) (g_Many_full : C8.Met P w K mg base 1 (He.ga K "Many") "full" (sp_Many_full K) []) (g_Many_through : C8.Met P w K mg base 3 (He.ga K "Many") "through" (sp_Many_through K) []) : C8.Met P w K mg base 4 (He.ga K "Many") "words" (sp_Many_words K) [] := by
  refine met_of T.clMany F sc_Many_words (fun vs H Q E h => by obtain ⟨_, _, _, _, _, _, _, _, rfl, _⟩ := h; rfl) (fun _ _ _ _ _ _ us hl => match us, hl with | [_], _ => rfl) (fun f cdv A outer s H vs Q E hr h => ?_)
  obtain ⟨m, a, v, c, od, ver, ws, mask, rfl, hm, hc, hv, ok, hlen, k⟩ := h
  have hu := hu_of hr
  refine ⟨_, (pss_cons (ps_set (i := 1) sc_Many_words.nd rfl (Or.inl rfl) (pe_fld (pv 0) rfl))
        (pss_cons (ps_set (i := 2) sc_Many_words.nd rfl (Or.inl rfl) pe_dnewK)
        (pss_cons (ps_if (PW.pt (pw_and (pt_cmpR op_notN1 (pv 1) pe_non (nomark _)) (pw_and1 (pt_cmpR op_eq (pe_ix ix_tup (pv 1) pe_int (fun _ _ => rfl)) pe_str (nomark _)))))
          (pss_one (ps_set (i := 2) sc_Many_words.nd rfl (Or.inl rfl) (pe_disp (pps_cons (pe_ix ix_tup (pv 1) pe_int (fun _ _ => rfl)) (C8.pe_mt g_Many_full hr (by decide) (pv 0) (pa_cons (pe_ix ix_tup (pv 1) pe_int (fun _ _ => rfl)) pa_nil)) pps_nil) (by rfl) (by rfl) (fun z => by cases z) (by decide))))
          pss_nil)
        (pss_cons (ps_if (PW.pt (pw_and (pt_cmpR op_notN1 (pv 1) pe_non (nomark _)) (pw_and1 (pt_cmpR op_eq (pe_ix ix_tup (pv 1) pe_int (fun _ _ => rfl)) pe_str (nomark _)))))
          (pss_cons (ps_set (i := 3) sc_Many_words.nd rfl (Or.inl rfl) (C8.pe_mt g_Many_through hr (by decide) (pv 0) (pa_cons pe_non (pa_cons pe_dnewK pa_nil))))
            (pss_cons (ps_par (i := 4) (j := 5) rfl sc_Many_words.nd rfl rfl (by decide) rfl rfl (pa_cons (pe_dget hu (pv 3) (pe_ix ix_tup (pv 1) pe_int (fun _ _ => rfl)) (fun _ _ => rfl)) (pa_cons (pe_dget hu (pv 3) (pe_ix ix_tup (pv 1) pe_int (fun _ _ => rfl)) (fun _ _ => rfl)) pa_nil)) (by rfl))
            (pss_cons (ps_set (i := 6) sc_Many_words.nd rfl (Or.inl rfl) (pe_ifExp (pt_cmpR op_eq (pe_ix ix_tup (pv 1) pe_int (fun _ _ => rfl)) pe_str (nomark _)) (pe_op op_and (pv 4) (pv 5)) (pe_op op_or (pv 4) (pv 5))))
            (pss_one (ps_set (i := 2) sc_Many_words.nd rfl (Or.inl rfl) (pe_disp (pps_cons (pe_ix ix_tup (pv 1) pe_int (fun _ _ => rfl)) (pv 6) (pps_cons (pe_ix ix_tup (pv 1) pe_int (fun _ _ => rfl)) (pv 6) pps_nil)) (by rfl) (by rfl) (fun z => by cases z) (by decide)))))))
          pss_nil)
        (pss_one (ps_ret (C8.pe_mt g_Many_through hr (by decide) (pv 0) (pa_cons (pv 1) (pa_cons (pv 2) pa_nil))))))))), ?_⟩
  obtain ⟨dx2, fs2, gd, hmo⟩ := id hm
  have hsh := ver_shp hc.ok.forms ok
  refine q_asg (ev_fld (ev_var rfl) hmo.ob T.clMany T.nm_version hmo.lv) fun H1 e1 => ?_
  refine q_asgG eg_dnew ?_
  intro p0 H2 hp0 e2 hd0
  have e12 := e1.trans e2
  -- the last step, the forced lines told
  have last : ∀ (H3 : Hp) (pf : Addr) (v3 v4 v5 v6 : Option V) (fr : Kn), Ex H H3 → H3 pf = some (.dK (fr.map kvI)) → fr = ver.fr (fullW mask) jnW (bare (gword mask) c.srcs od ws) →
      ∀ (E' : XK), EvG (tMeth (He.ga K "Many") "through" (sp_Many_through K) [] E' (tVar 0) (tCons (tVar 1) (tCons (tVar 2) tNil))) [some (.ref m), some v, some (.ref pf), v3, v4, v5, v6] H3 (RetF (fun p H2 => H2 p = some (.dK ((whole (gword mask) (fullW mask) jnW ver c.srcs od ws).map kvI)))) := by
    intro H3 pf v3 v4 v5 v6 fr e3 hf hfr E'
    subst hfr
    exact eg_meth (ev_var rfl) (e3 _ _ hmo.ob) (hmo.nom "through" (by decide)) (ea_cons (ev_var rfl) (ea_cons (ev_var rfl) ea_nil)) mo_F fun H4 e4 Q E q => ⟨m, v, pf, a, v, c, od, ver, ws, _, mask, rfl, hm.mono (e3.trans e4), hc.mono (e3.trans e4), hv.mono (e3.trans e4), hsh, hlen, e4 _ _ hf, q⟩
  cases ver with
  | non =>
    rcases hv with ⟨_, rfl⟩ | ⟨h, _⟩
    · refine q_when (b := false) (et_and (a := false) (b := false) (et_test (ev_is (ev_op (ev_var rfl) ev_c rv_notN) (by decide +kernel))) fun q => nomatch q) (fun q => nomatch q) fun _ H3 e3 => ?_
      refine q_when (b := false) (et_and (a := false) (b := false) (et_test (ev_is (ev_op (ev_var rfl) ev_c rv_notN) (by decide +kernel))) fun q => nomatch q) (fun q => nomatch q) fun _ H4 e4 => ?_
      exact s_retG (last H4 p0 _ _ _ _ [] ((e12.trans e3).trans e4) (e4 _ _ (e3 _ _ hd0)) rfl _) (mo_F _ _ _ ((e12.trans e3).trans e4) k)
    · exact absurd rfl h
  | stem z b =>
    obtain ⟨p, rfl, hs⟩ := hv.ref (fun q => by cases q)
    have hs2 := ex_t e12 hs
    refine q_when (b := true) (et_and (a := true) (b := true) (et_test (ev_is (ev_op (ev_var rfl) ev_c rv_notN) (by rfl))) fun _ => et_test (ev_is (ev_op (ev_op (ev_var rfl) ev_c (rv_ixT hs2 rfl)) ev_c (rv_eq rfl)) (by decide +kernel))) (fun _ H3 e3 => ?_) (fun q => nomatch q)
    have e13 := e12.trans e3
    have hs3 := ex_t e3 hs2
    refine s_asgG (eg_disp1 (ev_op (ev_var rfl) ev_c (rv_ixT hs3 rfl)) (ev_g (eg_meth (ev_var rfl) (e13 _ _ hmo.ob) (hmo.nom "full" (by decide)) (ea_cons (ev_op (ev_var rfl) ev_c (rv_ixT hs3 rfl)) ea_nil) mo_V fun H4 e4 Q E q => ⟨m, b, a, _, _, mask, rfl, hm.mono (e13.trans e4), q⟩))) ?_
    intro pf H4 hpf e4 hf
    refine q_when (b := false) (et_and (a := true) (b := false) (et_test (ev_is (ev_op (ev_var rfl) ev_c rv_notN) (by rfl))) fun _ => et_test (ev_is (ev_op (ev_op (ev_var rfl) ev_c (rv_ixT (ex_t e4 hs3) rfl)) ev_c (rv_eq rfl)) (by decide +kernel))) (fun q => nomatch q) (fun _ H5 e5 => ?_)
    exact s_retG (last H5 pf _ _ _ _ [(z, fullW mask b)] ((e13.trans e4).trans e5) (e5 _ _ hf) rfl _) (mo_F _ _ _ ((e13.trans e4).trans e5) k)
  | pin z i b =>
    obtain ⟨p, rfl, hs⟩ := hv.ref (fun q => by cases q)
    have hs2 := ex_t e12 hs
    refine q_when (b := false) (et_and (a := true) (b := false) (et_test (ev_is (ev_op (ev_var rfl) ev_c rv_notN) (by rfl))) fun _ => et_test (ev_is (ev_op (ev_op (ev_var rfl) ev_c (rv_ixT hs2 rfl)) ev_c (rv_eq rfl)) (by decide +kernel))) (fun q => nomatch q) fun _ H3 e3 => ?_
    refine q_when (b := false) (et_and (a := true) (b := false) (et_test (ev_is (ev_op (ev_var rfl) ev_c rv_notN) (by rfl))) fun _ => et_test (ev_is (ev_op (ev_op (ev_var rfl) ev_c (rv_ixT (ex_t e3 hs2) rfl)) ev_c (rv_eq rfl)) (by decide +kernel))) (fun q => nomatch q) fun _ H4 e4 => ?_
    exact s_retG (last H4 p0 _ _ _ _ [] ((e12.trans e3).trans e4) (e4 _ _ (e3 _ _ hd0)) rfl _) (mo_F _ _ _ ((e12.trans e3).trans e4) k)
  | short x y kd =>
    obtain ⟨p, rfl, hs⟩ := hv.ref (fun q => by cases q)
    have hs2 := ex_t e12 hs
    refine q_when (b := false) (et_and (a := true) (b := false) (et_test (ev_is (ev_op (ev_var rfl) ev_c rv_notN) (by rfl))) fun _ => et_test (ev_is (ev_op (ev_op (ev_var rfl) ev_c (rv_ixT hs2 rfl)) ev_c (rv_eq rfl)) (by decide +kernel))) (fun q => nomatch q) fun _ H3 e3 => ?_
    refine q_when (b := true) (et_and (a := true) (b := true) (et_test (ev_is (ev_op (ev_var rfl) ev_c rv_notN) (by rfl))) fun _ => et_test (ev_is (ev_op (ev_op (ev_var rfl) ev_c (rv_ixT (ex_t e3 hs2) rfl)) ev_c (rv_eq rfl)) (by decide +kernel))) (fun _ H4 e4 => ?_) (fun q => nomatch q)
    have e14 := (e12.trans e3).trans e4
    have hs4 := ex_t e14 hs
    refine q_asgG (R := RetF (fun p H2 => H2 p = some (.dK ((bare (gword mask) c.srcs od ws).map kvI)))) (eg_meth2F (P := fun p H2 => H2 p = some (.dK [])) (ev_var rfl) (e14 _ _ hmo.ob) (hmo.nom "through" (by decide)) ev_c eg_dnew mo_F fun pd H5 e5 hpd Q E q => ⟨m, .non, pd, a, _, c, od, .non, ws, [], mask, rfl, hm.mono (e14.trans e5), hc.mono (e14.trans e5), .inl ⟨rfl, rfl⟩, VShp_non, hlen, hpd, q⟩) ?_
    intro pk H5 hpk e5 hk
    have e15 := e14.trans e5
    have hs5 := ex_t e15 hs
    have hkeys := bare_keys (gword mask) (srcs := c.srcs) od hlen
    have hx := lk_of (kn := bare (gword mask) c.srcs od ws) (z := x) (by rw [hkeys]; exact (hc.ok.keys x).mp ok.1)
    have hy := lk_of (kn := bare (gword mask) c.srcs od ws) (z := y) (by rw [hkeys]; exact (hc.ok.keys y).mp ok.2.1)
    refine q_par (ea_cons (ev_dget (ev_var rfl) (ev_op (ev_var rfl) ev_c (rv_ixT hs5 rfl)) (.inl hk) (by rw [valV_kvI, hx]; rfl)) (ea_cons (ev_dget (ev_var rfl) (ev_op (ev_var rfl) ev_c (rv_ixT hs5 rfl)) (.inl hk) (by rw [valV_kvI, hy]; rfl)) ea_nil)) fun H6 e6 => ?_
    have hs6 := ex_t e6 hs5
    refine q_asg (v := .int (jnW kd (lk (bare (gword mask) c.srcs od ws) x) (lk (bare (gword mask) c.srcs od ws) y))) (ev_if (b := decide (kd = "and")) (et_test (ev_is (ev_op (ev_op (ev_var rfl) ev_c (rv_ixT hs6 rfl)) ev_c (rv_eq rfl)) ?_)) (fun h => ev_is (ev_op (ev_var rfl) (ev_var rfl) rv_I0) ?_) fun h => ev_is (ev_op (ev_var rfl) (ev_var rfl) rv_I0) ?_) fun H7 e7 => ?_
    · congr 1
      rw [Bool.eq_iff_iff]
      simp
    · rw [jnW, if_pos (of_decide_eq_true h)]
    · rw [jnW, if_neg (of_decide_eq_false h)]
    have hs7 := ex_t e7 hs6
    have hne : x ≠ y := fun q => by
      have := ok.2.2.1
      rw [q] at this
      exact List.lt_irrefl _ this
    refine s_asgG (eg_disp2 hne (ev_op (ev_var rfl) ev_c (rv_ixT hs7 rfl)) (ev_var rfl) (ev_op (ev_var rfl) ev_c (rv_ixT hs7 rfl)) (ev_var rfl)) ?_
    intro pf H8 hpf e8 hf
    have e18 := ((e15.trans e6).trans e7).trans e8
    exact s_retG (last H8 pf _ _ _ _ [(x, _), (y, _)] e18 hf rfl _) (mo_F _ _ _ e18 k)
theorem ok_words_of (T : Tx K mg) (F : DefF K mg "words_of" s_words_of) (g_Many : C8.Mak P w K mg base 2 "Many" (He.ga K "Many") (sp_Many___init__ K) []) (g_Many_words : C8.Met P w K mg base 4 (He.ga K "Many") "words" (sp_Many_words K) []) (g_check_pattern : CalX P w K mg base 4 "check_pattern" (sp_check_pattern K)) (g_check_version : C8.Cal P w K mg base 5 "check_version" (sp_check_version K) []) : CalX P w K mg base 6 "words_of" (sp_words_of K) := by
  refine calX_of F sc_words_of (fun vs H Q E h => by obtain ⟨_, _, _, _, _, _, _, rfl, _⟩ := h; rfl) (fun _ _ _ _ _ _ us hl => match us, hl with | [_, _, _], _ => rfl) (fun f cdv A outer s H vs Q E hr h => ?_)
  obtain ⟨a, v, l, c, od, ver, ps, rfl, hc, hv, ok, hps, k⟩ := h
  have hu := hu_of hr
  refine ⟨_, (pss_cons (ps_expr (C8.pe_c g_check_version hr (by decide) rfl (pa_cons (pv 0) (pa_cons (pv 1) pa_nil))))
        (pss_cons (ps_for (passes_of rfl) rfl (pi_list (pv 2)) (pg_name (i := 3) sc_words_of.nd rfl (Or.inl rfl))
          (pss_one (ps_expr (pe_cxS g_check_pattern hr (by decide) rfl (fun σ => passAt (takes_of rfl rfl rfl rfl) σ) (pa_cons (pv 0) (pa_cons (pv 3) pa_nil))))))
        (pss_one (ps_ret (C8.pe_mt0 g_Many_words hr (by decide) (C8.pe_mk g_Many hr (by decide) rfl (pa_cons (pv 0) (pa_cons (pv 1) (pa_cons (pv 2) pa_nil))))))))), ?_⟩
  refine q_drop (v := .non) (ev_g (eg_call (ea_cons (ev_var rfl) (ea_cons (ev_var rfl) ea_nil)) mo_V fun H1 e Q E q => ⟨a, v, c, od, ver, rfl, hc.mono e, hv.mono e, ok, q⟩)) fun H1 e1 => ?_
  have hps1 := hps.mono e1
  have hc1 := hc.mono e1
  rcases k with ⟨hgood, k⟩ | ⟨gs, b, rfl, hgood, hbad, hbl, k⟩
  · refine q_forL_ro (fun _ σ' => ∃ u, σ' = [some (.ref a), some v, some (.ref l), u]) (ev_var rfl) hps1.sq ⟨_, rfl⟩ (fun i x σ' H' N hi hs e kN => ?_) (fun σ' H2 hs e2 => ?_)
    · obtain ⟨u, rfl⟩ := hs
      obtain ⟨p, hp, rfl⟩ := map_at hi
      have hpm := List.mem_of_getElem? hp
      obtain ⟨q, hq1, hq2⟩ := (hps1.at_ p hpm).mono e
      obtain ⟨g1, g2⟩ := hgood p hpm
      refine s_dropS (ea_cons (ev_var rfl) (ea_cons (ev_var (by rw [hq1]; rfl)) ea_nil)) fun H3 e3 => ⟨a, q, c, p.2, rfl, (hc1.mono (e.trans e3)).at_.parts, ex_t e3 hq2, by rw [g1]; have := hc.ok.names.sn; omega, .inl ⟨g1, g2, fun H4 e4 => kN _ _ ⟨_, rfl⟩ (e3.trans e4)⟩⟩
    · obtain ⟨u, rfl⟩ := hs
      have e12 := e1.trans e2
      refine s_retG (R := RetF (fun p H2 => H2 p = some (.dK ((wordsV ver c od ps).map kvI)))) (fun H3 e3 Q q => ?_) (mo_F _ _ _ e12 k)
      have hA : EvA (tCons (tVar 0) (tCons (tVar 1) (tCons (tVar 2) tNil))) [some (.ref a), some v, some (.ref l), u] H3 [.ref a, v, .ref l] := ea_cons (ev_var rfl) (ea_cons (ev_var rfl) (ea_cons (ev_var rfl) ea_nil))
      unfold tMeth tMake
      dsimp only
      refine hA H3 (Ex.refl _) _ ?_
      intro H4 e4 x dx hx hdx hne
      have e14 := (e12.trans e3).trans e4
      refine ⟨x, a, v, l, c, od, ps, H4, rfl, Ex.mut (Ex.new hdx) hx, hx, ⟨dx, upd_same⟩, hc.mono e14, hps.mono e14, hgood, fun H5 e5 hm => ⟨rfl, ?_⟩⟩
      obtain ⟨dx3, fs3, gd3, hmo⟩ := id hm
      exact ⟨x, dx3, fs3, rfl, hmo.ob, hmo.nom "words" (by decide), ⟨x, a, v, c, od, ver, _, _, rfl, hm, hc.mono (e14.trans e5), hv.mono (e14.trans e5), ok, colW_len _ _, mo_F _ _ _ (e4.trans e5) q⟩⟩
  · refine q_forL_ro (fun i σ' => i ≤ gs.length ∧ ∃ u, σ' = [some (.ref a), some v, some (.ref l), u]) (ev_var rfl) hps1.sq ⟨Nat.zero_le _, _, rfl⟩ (fun i x σ' H' N hi hs e kN => ?_) (fun σ' H2 hs e2 => ?_)
    · obtain ⟨hle, u, rfl⟩ := hs
      obtain ⟨p, hp, rfl⟩ := map_at hi
      have hpm := List.mem_of_getElem? hp
      obtain ⟨q, hq1, hq2⟩ := (hps1.at_ p hpm).mono e
      by_cases hlt : i < gs.length
      · rw [List.getElem?_append_left hlt] at hp
        obtain ⟨g1, g2⟩ := hgood p (List.mem_of_getElem? hp)
        refine s_dropS (ea_cons (ev_var rfl) (ea_cons (ev_var (by rw [hq1]; rfl)) ea_nil)) fun H3 e3 => ⟨a, q, c, p.2, rfl, (hc1.mono (e.trans e3)).at_.parts, ex_t e3 hq2, by rw [g1]; have := hc.ok.names.sn; omega, .inl ⟨g1, g2, fun H4 e4 => kN _ _ ⟨hlt, _, rfl⟩ (e3.trans e4)⟩⟩
      · have hie : i = gs.length := by omega
        have hpb : p = b := by
          rw [List.getElem?_append_right (by omega), hie, Nat.sub_self] at hp
          exact (Option.some.inj hp).symm
        subst hpb
        refine s_dropS (ea_cons (ev_var rfl) (ea_cons (ev_var (by rw [hq1]; rfl)) ea_nil)) fun H3 e3 => ⟨a, q, c, p.2, rfl, (hc1.mono (e.trans e3)).at_.parts, ex_t e3 hq2, hbl, .inr ⟨hbad, fun H4 e4 => k H4 (((e1.trans e).trans e3).trans e4)⟩⟩
    · have := hs.1
      rw [List.length_map, List.length_append] at this
      simp at this
      omega
theorem ok_len {c : Ck} {od : List GV} (h : CkOk c od) (ps : List PV) : (colW ps c.srcs.length).length = c.srcs.length := colW_len _ _
theorem ok_responses (T : Tx K mg) (F : DefF K mg "responses" s_responses) (g_Circuit_sinks : C8.Met P w K mg base 1 (He.ga K "Circuit") "sinks" (sp_Circuit_sinks K) []) (g_words_of : CalX P w K mg base 6 "words_of" (sp_words_of K)) : C8.Cal P w K mg base 7 "responses" (sp_responses K) [] := by
  refine cal_of F sc_responses (fun vs H Q E h => by obtain ⟨_, _, _, _, _, _, _, rfl, _⟩ := h; rfl) (fun _ _ _ _ _ _ us hl => match us, hl with | [_, _, _], _ => rfl) (fun f cdv A outer s H vs Q E hr h => ?_)
  obtain ⟨a, v, l, c, od, ver, ps, rfl, hc, hv, ok, hps, hgood, k⟩ := h
  have hu := hu_of hr
  refine ⟨_, (pss_cons (ps_set (i := 3) sc_responses.nd rfl (Or.inr rfl) (pe_cx g_words_of hr (by decide) rfl (pa_cons (pv 0) (pa_cons (pv 1) (pa_cons (pv 2) pa_nil)))))
        (pss_cons (ps_set (i := 4) sc_responses.nd rfl (Or.inr rfl) (pe_lc (own := [("line", 5)]) (g := gName 5) (tt := tYes) rfl sc_responses.nd (pi_list (C8.pe_mt0 g_Circuit_sinks hr (by decide) (pv 0))) (blkOk_by (N := ["circuit", "version", "patterns", "words", "rows", "line", "row", "index"]) (sc := defScope s_responses) (by decide +kernel)) (fun _ _ _ _ _ => (pg_name (i := 5) sc_responses.nd rfl (Or.inl rfl))) (fun _ _ _ _ _ => pts_nil) (fun _ _ _ _ _ => (pe_dget hu (pv 3) (pv 5) (fun _ _ => rfl)))))
        (pss_one (ps_ret (pe_lc (own := [("index", 7)]) (g := gName 7) (tt := tYes) rfl sc_responses.nd (pi_range1 rfl T.n_range (pa_cons (pe_callB call_len_seq (by rfl) T.n_len PySem.boot_len (pa_cons (pv 2) pa_nil)) pa_nil)) (blkOk_by (N := ["circuit", "version", "patterns", "words", "rows", "line", "row", "index"]) (sc := defScope s_responses) (by decide +kernel)) (fun _ _ _ _ _ => (pg_name (i := 7) sc_responses.nd rfl (Or.inr rfl))) (fun _ _ _ _ _ => pts_nil) (fun _ _ _ _ _ => (pe_callTy (r := rTupOf K) call_tuple_of (by rfl) T.n_tuple (by decide +kernel) (pa_cons (pe_lc (own := [("row", 6)]) (wi := iList K (tVar 4)) (g := gName 6) (tt := tYes) rfl sc_responses.nd (pi_list (pv 4)) (blkOk_by (N := ["circuit", "version", "patterns", "words", "rows", "line", "row", "index"]) (sc := inner_responses) (by decide +kernel)) (fun _ _ _ _ _ => (pg_name (i := 6) sc_responses.nd rfl (Or.inl rfl))) (fun _ _ _ _ _ => pts_nil) (fun _ _ _ _ _ => (pe_op op_and (pe_op op_shr (pv 6) (pv 7)) pe_int))) pa_nil)))))))), ?_⟩
  obtain ⟨dx2, fs2, ti, tr, tg, to, hp⟩ := id hc.at_.parts
  refine q_asgG (R := RetF (fun p H2 => H2 p = some (.dK ((wordsV ver c od ps).map kvI)))) (eg_call (ea_cons (ev_var rfl) (ea_cons (ev_var rfl) (ea_cons (ev_var rfl) ea_nil))) mo_F fun H1 e Q E q => ⟨a, v, l, c, od, ver, ps, rfl, hc.mono e, hv.mono e, ok, hps.mono e, .inl ⟨hgood, q⟩⟩) ?_
  intro pk H1 hpk e1 hk
  have hkeys : (wordsV ver c od ps).map (·.1) = c.srcs ++ nms od := whole_keys _ _ _ ver (srcs := c.srcs) od (colW_len ps _)
  have f1 := hp.few.outs
  have f2 := hp.few.regs
  have hsl : c.sinks.length ≤ 200 := by simp [Ck.sinks, Ck.takens]; omega
  refine q_asgL (el_mapNL (ys := (c.sinks.map fun z => lk (wordsV ver c od ps) z).map V.int) (eg_sinks (ev_var rfl) (hc.mono e1).at_.parts) (by rw [List.length_map]; omega) (by simp) (fun _ => rfl) fun i x y H2 e2 hx hy => ?_) fun pr H2 hpr e2 hrl => ?_
  · obtain ⟨z, hz, rfl⟩ := map_at hx
    rw [List.map_map, List.getElem?_map, hz] at hy
    cases hy
    have hin := (hc.ok.keys z).mp (hc.ok.sink (List.mem_of_getElem? hz))
    exact ev_dget (ev_var rfl) (ev_var rfl) (.inl (e2 _ _ hk)) (by rw [valV_kvI, lk_of (by rw [hkeys]; exact hin)]; rfl)
  · have e12 := e1.trans e2
    have hfew := hps.few
    refine s_retG (eg_lcR (n := ps.length) (P := fun j v H2 => PatAt K H2 v (rowAt (wordsV ver c od ps) c.sinks j)) (fun j v H1 H2 e h => ?_) (ea_cons (ev_is (ev_len (ev_var rfl) (ex_l e12 hps.sq)) (by rw [List.length_map])) ea_nil) (by omega) (fun _ => rfl) fun j H3 e3 hj => ?_) (mo_F _ _ _ e12 k)
    · obtain ⟨p, h1, h2⟩ := h
      exact ⟨p, h1, ext_t e h2⟩
    · intro H4 e4 Q q
      refine eu_tupOf (xs := (rowAt (wordsV ver c od ps) c.sinks j).map V.int) (el_mapL (ev_var rfl) (sq_of (e3 _ _ hrl)) (by rw [List.length_map, List.length_map]; omega) (by simp [rowAt]) (fun _ => rfl) fun i x y H5 e5 hx hy => ?_) H4 e4 _ fun p H5 hp5 e5 h5 => q _ H5 e5 ⟨p, rfl, st_of h5⟩
      rw [List.map_map] at hx
      obtain ⟨z, hz, rfl⟩ := map_at hx
      rw [rowAt, List.map_map, List.getElem?_map, hz] at hy
      cases hy
      refine ev_is (ev_op (ev_op (ev_var rfl) (ev_var rfl) (rv_I (by omega))) ev_c rv_I0) ?_
      rw [Int.toNat_natCast]
      rfl
theorem ok_parting (T : Tx K mg) (F : DefF K mg "parting" s_parting) (g_Circuit_sinks : C8.Met P w K mg base 1 (He.ga K "Circuit") "sinks" (sp_Circuit_sinks K) []) (g_words_of : CalX P w K mg base 6 "words_of" (sp_words_of K)) : C8.Cal P w K mg base 7 "parting" (sp_parting K) [] := by
  refine cal_of F sc_parting (fun vs H Q E h => by obtain ⟨_, _, _, _, _, _, _, _, _, rfl, _⟩ := h; rfl) (fun _ _ _ _ _ _ us hl => match us, hl with | [_, _, _, _], _ => rfl) (fun f cdv A outer s H vs Q E hr h => ?_)
  obtain ⟨a, v, v2, l, c, od, ver, ver2, ps, rfl, hc, hv, ok, hv2, ok2, hps, hgood, k⟩ := h
  have hu := hu_of hr
  refine ⟨_, (pss_cons (ps_set (i := 4) sc_parting.nd rfl (Or.inl rfl) (pe_cx g_words_of hr (by decide) rfl (pa_cons (pv 0) (pa_cons (pv 1) (pa_cons (pv 3) pa_nil)))))
        (pss_cons (ps_set (i := 5) sc_parting.nd rfl (Or.inl rfl) (pe_cx g_words_of hr (by decide) rfl (pa_cons (pv 0) (pa_cons (pv 2) (pa_cons (pv 3) pa_nil)))))
        (pss_cons (ps_set (i := 6) sc_parting.nd rfl (Or.inr rfl) pe_int)
        (pss_cons (ps_for PassesOwn.never rfl (pi_list (C8.pe_mt0 g_Circuit_sinks hr (by decide) (pv 0))) (pg_name (i := 7) sc_parting.nd rfl (Or.inl rfl))
          (pss_one (ps_aug (i := 6) sc_parting.nd rfl (Or.inr rfl) (pe_op op_xor (pe_dget hu (pv 4) (pv 7) (fun _ _ => rfl)) (pe_dget hu (pv 5) (pv 7) (fun _ _ => rfl))) ip_or)))
        (pss_one (ps_ret (pe_lc (own := [("index", 8)]) (g := gName 8) rfl sc_parting.nd (pi_range1 rfl T.n_range (pa_cons (pe_callB call_len_seq (by rfl) T.n_len PySem.boot_len (pa_cons (pv 3) pa_nil)) pa_nil)) (blkOk_by (N := ["circuit", "one", "other", "patterns", "left", "right", "word", "line", "index"]) (sc := defScope s_parting) (by decide +kernel)) (fun _ _ _ _ _ => (pg_name (i := 8) sc_parting.nd rfl (Or.inl rfl))) (fun _ _ _ _ _ => pts_one (pt_cmpR op_eq (pe_op op_and (pe_op op_shr (pv 6) (pv 8)) pe_int) pe_int (nomark _))) (fun _ _ _ _ _ => (pv 8))))))))), ?_⟩
  obtain ⟨dx2, fs2, ti, tr, tg, to, hp⟩ := id hc.at_.parts
  refine q_asgG (R := RetF (fun p H2 => H2 p = some (.dK ((wordsV ver c od ps).map kvI)))) (eg_call (ea_cons (ev_var rfl) (ea_cons (ev_var rfl) (ea_cons (ev_var rfl) ea_nil))) mo_F fun H1 e Q E q => ⟨a, v, l, c, od, ver, ps, rfl, hc.mono e, hv.mono e, ok, hps.mono e, .inl ⟨hgood, q⟩⟩) ?_
  intro pk H1 hpk e1 hk
  refine q_asgG (R := RetF (fun p H2 => H2 p = some (.dK ((wordsV ver2 c od ps).map kvI)))) (eg_call (ea_cons (ev_var rfl) (ea_cons (ev_var rfl) (ea_cons (ev_var rfl) ea_nil))) mo_F fun H2 e Q E q => ⟨a, v2, l, c, od, ver2, ps, rfl, hc.mono (e1.trans e), hv2.mono (e1.trans e), ok2, hps.mono (e1.trans e), .inl ⟨hgood, q⟩⟩) ?_
  intro pk2 H2 hpk2 e2 hk2
  have e12 := e1.trans e2
  have hkeys : (wordsV ver c od ps).map (·.1) = c.srcs ++ nms od := whole_keys _ _ _ ver (srcs := c.srcs) od (colW_len ps _)
  have hkeys2 : (wordsV ver2 c od ps).map (·.1) = c.srcs ++ nms od := whole_keys _ _ _ ver2 (srcs := c.srcs) od (colW_len ps _)
  have hfew := hps.few
  refine q_asg ev_c fun H3 e3 => ?_
  have e13 := e12.trans e3
  refine q_forNL_ro (fun i σ' => ∃ u, σ' = [some (.ref a), some v, some v2, some (.ref l), some (.ref pk), some (.ref pk2), some (.int (partW (wordsV ver c od ps) (wordsV ver2 c od ps) (c.sinks.take i))), u, none]) (eg_sinks (ev_var rfl) (hc.mono e13).at_.parts) ⟨_, rfl⟩ (fun i x σ' H' N hi hs e kN => ?_) (fun σ' H4 hs e4 => ?_)
  · obtain ⟨u, rfl⟩ := hs
    obtain ⟨z, hz, rfl⟩ := map_at hi
    have hin := (hc.ok.keys z).mp (hc.ok.sink (List.mem_of_getElem? hz))
    refine s_aug (a := partW (wordsV ver c od ps) (wordsV ver2 c od ps) (c.sinks.take i)) rfl (ev_op (ev_dget (ev_var rfl) (ev_var rfl) (.inl (e _ _ (e3 _ _ (e2 _ _ hk)))) (by rw [valV_kvI, lk_of (by rw [hkeys]; exact hin)]; rfl)) (ev_dget (ev_var rfl) (ev_var rfl) (.inl (e _ _ (e3 _ _ hk2))) (by rw [valV_kvI, lk_of (by rw [hkeys2]; exact hin)]; rfl)) rv_I0) fun H4 e4 => kN _ _ ⟨some (.str z), ?_⟩ e4
    rw [take_snoc hz, partW, partW, List.foldl_append]
    rfl
  · obtain ⟨u, rfl⟩ := hs
    have e14 := e13.trans e4
    rw [List.length_map, List.take_length]
    refine s_retL (xs := given ps.length (fun i => decide (Builtin.bitAnd (partW (wordsV ver c od ps) (wordsV ver2 c od ps) c.sinks / 2 ^ i) 1 = 1)) fun i => .int (i : Int)) ?_ fun p H5 hp5 e5 h5 => k p H5 (fresh_back e14 hp5) (e14.trans e5) h5
    have := el_lcR1 (te := tVar 8) (j := 8) (vs := [8]) (t := tTest (tOp rEq (tOp (rI0 fun i j => .int (Builtin.bitAnd i j)) (tOp (rI (fun _ j => 0 ≤ j) fun i j => .int (i / 2 ^ j.toNat)) (tVar 6) (tVar 8)) (tC (.int 1))) (tC (.int 1)))) (fun i => decide (Builtin.bitAnd (partW (wordsV ver c od ps) (wordsV ver2 c od ps) c.sinks / 2 ^ i) 1 = 1)) (fun i => .int (i : Int)) (n := (ps.length : Int)) (σ := [some (.ref a), some v, some v2, some (.ref l), some (.ref pk), some (.ref pk2), some (.int (partW (wordsV ver c od ps) (wordsV ver2 c od ps) c.sinks)), u, none]) (ta := tCons (tCB (rLenS K) (tCons (tVar 3) tNil)) tNil) (H := H4)
      (ea_cons (ev_is (ev_len (ev_var rfl) (ex_l e14 hps.sq)) (by rw [List.length_map])) ea_nil) ⟨by omega, by omega⟩ (fun _ => rfl) (fun i H5 e5 hi => et_test (ev_is (ev_op (ev_op (ev_op (ev_var rfl) (ev_var rfl) (rv_I (by omega))) ev_c rv_I0) ev_c (rv_eq rfl)) ?_)) (fun i H5 e5 hi _ => ev_var rfl)
    · rw [Int.toNat_natCast] at this
      exact this
    · rw [Int.toNat_natCast]
      congr 1
      rw [Bool.eq_iff_iff]
      simp
end
end Pw


namespace Pw
open PySem PySem.Spec PyProof.Rows L2 Evl
/-! ### words are bits side by side -/
abbrev BF := Nat → Bool
def bI (b : Bool) : Int := if b then 1 else 0
def wdN : Nat → BF → Nat
  | 0, _ => 0
  | n + 1, f => wdN n f + (if f n then 2 ^ n else 0)
def wd : Nat → BF → Int
  | 0, _ => 0
  | n + 1, f => wd n f + bI (f n) * 2 ^ n
theorem wd_nat (f : BF) : ∀ n, wd n f = (wdN n f : Int)
  | 0 => rfl
  | n + 1 => by
    rw [wd, wdN, wd_nat f n, bI]
    cases f n <;> simp
theorem wdN_lt (f : BF) : ∀ n, wdN n f < 2 ^ n
  | 0 => by simp [wdN]
  | n + 1 => by
    have := wdN_lt f n
    rw [wdN, Nat.pow_succ]
    split <;> omega
theorem wdN_bit (f : BF) : ∀ n k, (wdN n f).testBit k = (decide (k < n) && f k)
  | 0, k => by simp [wdN]
  | n + 1, k => by
    have ih := wdN_bit f n
    have hlt := wdN_lt f n
    by_cases h1 : k < n
    · rw [decide_eq_true (show k < n + 1 by omega), Bool.true_and, wdN]
      have e1 := ih k
      rw [decide_eq_true h1, Bool.true_and] at e1
      split
      · rw [Nat.add_comm, Nat.testBit_two_pow_add_gt h1, e1]
      · rw [Nat.add_zero, e1]
    · by_cases h2 : k = n
      · subst h2
        have e1 := ih k
        rw [decide_eq_false (by omega), Bool.false_and] at e1
        rw [decide_eq_true (show k < k + 1 by omega), Bool.true_and, wdN]
        split
        · rename_i hf
          rw [Nat.add_comm, Nat.testBit_two_pow_add_eq, e1, hf]
          rfl
        · rename_i hf
          rw [Nat.add_zero, e1]
          simpa using hf
      · rw [decide_eq_false (by omega), Bool.false_and]
        refine Nat.testBit_lt_two_pow ?_
        exact Nat.lt_of_lt_of_le (wdN_lt f (n + 1)) (Nat.pow_le_pow_right (by omega) (by omega))
theorem wd_nn (n : Nat) (f : BF) : 0 ≤ wd n f := by
  rw [wd_nat]
  omega
theorem wd_op {n : Nat} {f g h : BF} {o : Nat → Nat → Nat} {b : Bool → Bool → Bool} (hb : ∀ x y k, (o x y).testBit k = b (x.testBit k) (y.testBit k)) (b0 : b false false = false) (hh : ∀ k, h k = b (f k) (g k)) : o (wdN n f) (wdN n g) = wdN n h := by
  apply Nat.eq_of_testBit_eq
  intro k
  rw [hb, wdN_bit, wdN_bit, wdN_bit, hh]
  cases decide (k < n) <;> simp [b0]
theorem wd_and (n : Nat) (f g : BF) : Builtin.bitAnd (wd n f) (wd n g) = wd n fun k => f k && g k := by
  have e : (wdN n f) &&& (wdN n g) = wdN n fun k => f k && g k := wd_op (o := fun x y => x &&& y) (b := fun x y => x && y) (fun x y k => Nat.testBit_and x y k) rfl fun _ => rfl
  rw [bitAnd_pp (wd_nn n f) (wd_nn n g), wd_nat, wd_nat, Int.toNat_natCast, Int.toNat_natCast, e, wd_nat]
theorem wd_or (n : Nat) (f g : BF) : Builtin.bitOr (wd n f) (wd n g) = wd n fun k => f k || g k := by
  have e : (wdN n f) ||| (wdN n g) = wdN n fun k => f k || g k := wd_op (o := fun x y => x ||| y) (b := fun x y => x || y) (fun x y k => Nat.testBit_or x y k) rfl fun _ => rfl
  rw [Bits.bitOr_pp (wd_nn n f) (wd_nn n g), wd_nat, wd_nat, Int.toNat_natCast, Int.toNat_natCast, e, wd_nat]
theorem wd_xor (n : Nat) (f g : BF) : Builtin.bitXor (wd n f) (wd n g) = wd n fun k => f k ^^ g k := by
  have e : (wdN n f) ^^^ (wdN n g) = wdN n fun k => f k ^^ g k := wd_op (o := fun x y => x ^^^ y) (b := fun x y => x ^^ y) (fun x y k => Nat.testBit_xor x y k) rfl fun _ => rfl
  rw [Bits.bitXor_pp (wd_nn n f) (wd_nn n g), wd_nat, wd_nat, Int.toNat_natCast, Int.toNat_natCast, e, wd_nat]
theorem wd_false : ∀ n, wd n (fun _ => false) = 0
  | 0 => rfl
  | n + 1 => by rw [wd, wd_false n]; simp [bI]
theorem wd_true : ∀ n, wd n (fun _ => true) = maskW n
  | 0 => rfl
  | n + 1 => by
    rw [wd, wd_true n, maskW, maskW, Int.pow_succ]
    simp only [bI, if_true]
    omega
theorem wd_bit {n j : Nat} (f : BF) (h : j < n) : Builtin.bitAnd (wd n f / 2 ^ j) 1 = bI (f j) := by
  have h1 := Bits.bit_at (x := wd n f) j
  rw [Int.fdiv_eq_ediv_of_nonneg _ (by exact Int.pow_nonneg (by decide))] at h1
  rw [h1, wd_nat]
  have h2 := wdN_bit f n j
  rw [decide_eq_true h, Bool.true_and, Nat.testBit_eq_decide_div_mod_eq] at h2
  have h3 : ((wdN n f : Int) / 2 ^ j % 2) = ((wdN n f / 2 ^ j % 2 : Nat) : Int) := by
    simp
  rw [h3]
  cases hf : f j with
  | true =>
    rw [hf] at h2
    rw [of_decide_eq_true h2]
    rfl
  | false =>
    rw [hf] at h2
    have := of_decide_eq_false h2
    have h4 : wdN n f / 2 ^ j % 2 = 0 := by omega
    rw [h4]
    rfl
theorem wd_congr {f g : BF} : ∀ {n : Nat}, (∀ k, k < n → f k = g k) → wd n f = wd n g
  | 0, _ => rfl
  | n + 1, h => by rw [wd, wd, wd_congr fun k hk => h k (by omega), h n (by omega)]
/-! a word of bits -/
theorem wordO_wd : ∀ (n : Nat) (bs : List Int), bs.length = n → (∀ b ∈ bs, bitB b = true) → wordO bs = wd n fun k => decide (bs.getD k 0 = 1)
  | 0, bs, h, _ => by
    have : bs = [] := List.length_eq_zero_iff.mp h
    rw [this]
    rfl
  | n + 1, bs, h, hb => by
    obtain ⟨l, b, rfl⟩ : ∃ l b, bs = l ++ [b] := by
      rcases List.eq_nil_or_concat bs with e | ⟨l, b, e⟩
      · rw [e] at h
        simp at h
      · exact ⟨l, b, by rw [e, List.concat_eq_append]⟩
    have hl : l.length = n := by simpa using h
    have ih := wordO_wd n l hl fun x hx => hb x (List.mem_append_left _ hx)
    rw [wordO] at ih
    rw [wordO, wordF_snoc, Nat.zero_add, hl, ih]
    obtain ⟨b0, b1⟩ := bitB_small (hb b (by simp))
    have hlt : wd n (fun k => decide (l.getD k 0 = 1)) < 2 ^ n := by
      rw [wd_nat]
      have := wdN_lt (fun k => decide (l.getD k 0 = 1)) n
      exact_mod_cast this
    rw [Bits.bitOr_join (wd_nn _ _) hlt b0, wd]
    have e1 : wd n (fun k => decide (l.getD k 0 = 1)) = wd n fun k => decide ((l ++ [b]).getD k 0 = 1) := wd_congr fun k hk => by
      rw [List.getD_eq_getElem?_getD, List.getD_eq_getElem?_getD, List.getElem?_append_left (by omega)]
    have e2 : (l ++ [b]).getD n 0 = b := by
      rw [List.getD_eq_getElem?_getD, List.getElem?_append_right (by omega), hl, Nat.sub_self]
      rfl
    rw [e1, e2]
    congr 1
    have : b = 0 ∨ b = 1 := by omega
    rcases this with rfl | rfl <;> simp [bI]
/-! ### the evaluator over bit functions -/
def gbf (kd : Str) (w o : Bool) : Bool := if kd ∈ kAn then w && o else if kd ∈ kO then w || o else w ^^ o
def gb (kd : Str) (bs : List Bool) : Bool := if kd ∈ k0 then kd == "high" else ((bs.drop 1).foldl (gbf kd) (bs.getD 0 false)) ^^ decide (kd ∈ kN)
abbrev KF := List (Str × BF)
def fF : BF := fun _ => false
def lkF (kn : KF) (z : Str) : BF := (kn.lookup z).getD fF
def pinsF (stk : Str → Nat → Option BF) (kn : KF) (g : Gate) : List BF := (List.range g.pins.length).map fun i => (stk g.nm i).getD (lkF kn (g.pins.getD i ""))
def opF (kd : Str) (fs : List BF) : BF := fun k => gb kd (fs.map fun f => f k)
def stepF (stk : Str → Nat → Option BF) (fr kn : KF) (g : GV) : KF := kn ++ [(g.2.nm, (fr.lookup g.2.nm).getD (opF g.2.kd (pinsF stk kn g.2)))]
def runF (stk : Str → Nat → Option BF) (fr : KF) (l : List GV) (kn : KF) : KF := l.foldl (stepF stk fr) kn
def srcF (fr : KF) (zs : List Str) (ws : List BF) : KF := (zs.zip ws).map fun q => (q.1, (fr.lookup q.1).getD q.2)
def fullF (b : Int) : BF := fun _ => decide (b = 1)
def jnF (kd : Str) (f g : BF) : BF := fun k => if kd = "and" then f k && g k else f k || g k
def Ver.frF (base : KF) : Ver → KF
  | .stem z b => [(z, fullF b)]
  | .short x y k => [(x, jnF k (lkF base x) (lkF base y)), (y, jnF k (lkF base x) (lkF base y))]
  | _ => []
def bareF (srcs : List Str) (od : List GV) (ws : List BF) : KF := runF (fun _ _ => none) [] od (srcF [] srcs ws)
def wholeF (ver : Ver) (srcs : List Str) (od : List GV) (ws : List BF) : KF :=
  runF (fun n i => (ver.at_ n i).map fullF) (ver.frF (bareF srcs od ws)) od (srcF (ver.frF (bareF srcs od ws)) srcs ws)
def im (h : BF → Int) (kn : KF) : Kn := kn.map fun q => (q.1, h q.2)
theorem im_lookup (h : BF → Int) (z : Str) : ∀ kn : KF, (im h kn).lookup z = (kn.lookup z).map h
  | [] => rfl
  | (x, f) :: r => by
    rw [im, List.map_cons, List.lookup_cons, List.lookup_cons]
    cases z == x
    · exact im_lookup h z r
    · rfl
theorem im_lk (h : BF → Int) (h0 : h fF = 0) (kn : KF) (z : Str) : lk (im h kn) z = h (lkF kn z) := by
  rw [lk, lkF, im_lookup]
  cases kn.lookup z
  · exact h0.symm
  · rfl
structure Hom (h : BF → Int) (op : Str → List Int → Int) (f : Int → Int) (jn : Str → Int → Int → Int) : Prop where
  h0 : h fF = 0
  op : ∀ kd fs, Allowed kd fs.length → op kd (fs.map h) = h (opF kd fs)
  full : ∀ b, bitB b = true → f b = h (fullF b)
  jn : ∀ kd a b, jn kd (h a) (h b) = h (jnF kd a b)
section
variable {h : BF → Int} {op : Str → List Int → Int} {f : Int → Int} {jn : Str → Int → Int → Int}
theorem Hom.pins (H : Hom h op f jn) {stk : Str → Nat → Option Int} {stF : Str → Nat → Option BF} (hs : ∀ n i, stk n i = (stF n i).map h) (kn : KF) (g : Gate) : pinsV stk (im h kn) g = (pinsF stF kn g).map h := by
  rw [pinsV, pinsF, List.map_map]
  refine List.map_congr_left fun i _ => ?_
  show (stk g.nm i).getD _ = h ((stF g.nm i).getD _)
  rw [hs, im_lk h H.h0]
  cases stF g.nm i <;> rfl
theorem Hom.run (H : Hom h op f jn) {stk : Str → Nat → Option Int} {stF : Str → Nat → Option BF} (hs : ∀ n i, stk n i = (stF n i).map h) (fr : KF) : ∀ (l : List GV) (kn : KF), (∀ g ∈ l, Allowed g.2.kd g.2.pins.length) → runV op stk (im h fr) l (im h kn) = im h (runF stF fr l kn)
  | [], kn, _ => rfl
  | g :: l, kn, ha => by
    have e : stepV op stk (im h fr) (im h kn) g = im h (stepF stF fr kn g) := by
      have e1 : op g.2.kd (pinsV stk (im h kn) g.2) = h (opF g.2.kd (pinsF stF kn g.2)) := by
        rw [H.pins hs]
        exact H.op _ _ (by simpa [pinsF] using ha g List.mem_cons_self)
      have e2 : (im h fr).lookup g.2.nm = (fr.lookup g.2.nm).map h := im_lookup h _ _
      show im h kn ++ [(g.2.nm, ((im h fr).lookup g.2.nm).getD (op g.2.kd (pinsV stk (im h kn) g.2)))] = (kn ++ [(g.2.nm, (fr.lookup g.2.nm).getD (opF g.2.kd (pinsF stF kn g.2)))]).map fun q => (q.1, h q.2)
      rw [List.map_append, e1, e2]
      cases fr.lookup g.2.nm <;> rfl
    show runV op stk (im h fr) l (stepV op stk (im h fr) (im h kn) g) = im h (runF stF fr l (stepF stF fr kn g))
    rw [e]
    exact H.run hs fr l _ fun y hy => ha y (List.mem_cons_of_mem _ hy)
theorem src_im (h : BF → Int) (fr : KF) : ∀ (zs : List Str) (ws : List BF), srcV (im h fr) zs (ws.map h) = im h (srcF fr zs ws)
  | [], ws => rfl
  | z :: zs, [] => rfl
  | z :: zs, w :: ws => by
    have ih := src_im h fr zs ws
    show (z, ((im h fr).lookup z).getD (h w)) :: srcV (im h fr) zs (ws.map h) = (z, h ((fr.lookup z).getD w)) :: im h (srcF fr zs ws)
    rw [ih, im_lookup]
    cases fr.lookup z <;> rfl
theorem Hom.bare (H : Hom h op f jn) (srcs : List Str) (od : List GV) (ws : List BF) (ha : ∀ g ∈ od, Allowed g.2.kd g.2.pins.length) : Pw.bare op srcs od (ws.map h) = im h (bareF srcs od ws) := by
  rw [Pw.bare, bareF]
  have e : srcV [] srcs (ws.map h) = im h (srcF [] srcs ws) := src_im h [] srcs ws
  rw [e]
  exact H.run (stF := fun _ _ => none) (fun _ _ => rfl) [] od _ ha
def VBit : Ver → Prop
  | .stem _ b => bitB b = true
  | .pin _ _ b => bitB b = true
  | _ => True
theorem Hom.fr (H : Hom h op f jn) {ver : Ver} (hv : VBit ver) (base : KF) : ver.fr f jn (im h base) = im h (ver.frF base) := by
  cases ver with
  | non => rfl
  | pin z i b => rfl
  | stem z b =>
    show [(z, f b)] = [(z, h (fullF b))]
    rw [H.full b hv]
  | short x y k =>
    show [(x, jn k (lk (im h base) x) (lk (im h base) y)), (y, jn k (lk (im h base) x) (lk (im h base) y))] = [(x, h (jnF k (lkF base x) (lkF base y))), (y, h (jnF k (lkF base x) (lkF base y)))]
    rw [im_lk h H.h0, im_lk h H.h0, H.jn]
theorem Hom.whole (H : Hom h op f jn) {ver : Ver} (hv : VBit ver) (srcs : List Str) (od : List GV) (ws : List BF) (ha : ∀ g ∈ od, Allowed g.2.kd g.2.pins.length) : Pw.whole op f jn ver srcs od (ws.map h) = im h (wholeF ver srcs od ws) := by
  rw [Pw.whole, wholeF, H.bare srcs od ws ha, H.fr hv, src_im]
  refine H.run (stF := fun n i => (ver.at_ n i).map fullF) (fun n i => ?_) _ od _ ha
  cases ver with
  | non => rfl
  | stem z b => rfl
  | short x y k => rfl
  | pin z j b =>
    show Option.map f (if z = n ∧ j = i then some b else none) = Option.map h (Option.map fullF (if z = n ∧ j = i then some b else none))
    by_cases q : z = n ∧ j = i
    · rw [if_pos q]
      show some (f b) = some (h (fullF b))
      rw [H.full b hv]
    · rw [if_neg q]
      rfl
end
/-! the two ways to look at it -/
theorem bI_gb (kd : Str) (bs : List Bool) (ha : Allowed kd bs.length) : gval kd (bs.map bI) = bI (gb kd bs) := by
  rcases ha with ⟨hk, hn⟩ | ⟨hk, hn⟩ | ⟨hk, h1, h4⟩
  · have : bs = [] := List.length_eq_zero_iff.mp hn
    subst this
    exact (by decide +kernel : ∀ kd ∈ k0, gval kd (([] : List Bool).map bI) = bI (gb kd [])) kd hk
  · match bs, hn with
    | [a], _ => exact (by decide +kernel : ∀ kd ∈ k1, ∀ a : Bool, gval kd ([a].map bI) = bI (gb kd [a])) kd hk a
  · match bs, h1, h4 with
    | [a], _, _ => exact (by decide +kernel : ∀ kd ∈ k4, ∀ a : Bool, gval kd ([a].map bI) = bI (gb kd [a])) kd hk a
    | [a, b], _, _ => exact (by decide +kernel : ∀ kd ∈ k4, ∀ a b : Bool, gval kd ([a, b].map bI) = bI (gb kd [a, b])) kd hk a b
    | [a, b, c], _, _ => exact (by decide +kernel : ∀ kd ∈ k4, ∀ a b c : Bool, gval kd ([a, b, c].map bI) = bI (gb kd [a, b, c])) kd hk a b c
    | [a, b, c, d], _, _ => exact (by decide +kernel : ∀ kd ∈ k4, ∀ a b c d : Bool, gval kd ([a, b, c, d].map bI) = bI (gb kd [a, b, c, d])) kd hk a b c d
theorem bitB_cases {b : Int} (h : bitB b = true) : b = 0 ∨ b = 1 := by
  obtain ⟨h0, h1⟩ := bitB_small h
  omega
/-- the bits of pattern k -/
theorem homB (k : Nat) : Hom (fun f => bI (f k)) gval id jnB where
  h0 := rfl
  op := fun kd fs ha => by
    have := bI_gb kd (fs.map fun f => f k) (by rw [List.length_map]; exact ha)
    rw [List.map_map] at this
    exact this
  full := fun b hb => by
    rcases bitB_cases hb with rfl | rfl <;> rfl
  jn := fun kd a b => by
    show jnB kd (bI (a k)) (bI (b k)) = bI (if kd = "and" then a k && b k else a k || b k)
    rw [jnB]
    by_cases h : kd = "and"
    · rw [if_pos h, if_pos h]
      cases a k <;> cases b k <;> rfl
    · rw [if_neg h, if_neg h]
      cases a k <;> cases b k <;> rfl
theorem wd_fold (n : Nat) (kd : Str) : ∀ (fs : List BF) (f : BF), (fs.map (wd n)).foldl (foldW kd) (wd n f) = wd n fun k => (fs.map fun g => g k).foldl (gbf kd) (f k)
  | [], f => rfl
  | g :: fs, f => by
    have e : foldW kd (wd n f) (wd n g) = wd n fun k => gbf kd (f k) (g k) := by
      rw [foldW]
      by_cases h1 : kd ∈ kAn
      · rw [if_pos h1, wd_and]
        congr 1
        funext k
        rw [gbf, if_pos h1]
      · rw [if_neg h1]
        by_cases h2 : kd ∈ kO
        · rw [if_pos h2, wd_or]
          congr 1
          funext k
          rw [gbf, if_neg h1, if_pos h2]
        · rw [if_neg h2, wd_xor]
          congr 1
          funext k
          rw [gbf, if_neg h1, if_neg h2]
    rw [List.map_cons, List.foldl_cons, e, wd_fold n kd fs]
    rfl
/-- the words -/
theorem homW (n : Nat) : Hom (wd n) (gword (maskW n)) (fullW (maskW n)) jnW where
  h0 := wd_false n
  op := fun kd fs ha => by
    rw [gword]
    by_cases hk : kd ∈ k0
    · rw [if_pos hk]
      have e : opF kd fs = fun _ => kd == "high" := by
        funext k
        rw [opF, gb, if_pos hk]
      rw [e]
      by_cases hh : kd = "high"
      · rw [if_pos hh, hh]
        exact (wd_true n).symm
      · rw [if_neg hh]
        have : (kd == "high") = false := by simpa using hh
        rw [this]
        exact (wd_false n).symm
    · rw [if_neg hk]
      have hne : fs ≠ [] := by
        intro q
        rw [q] at ha
        rcases ha with ⟨h, _⟩ | ⟨_, h⟩ | ⟨_, h, _⟩
        · exact hk h
        · cases h
        · simp at h
      obtain ⟨f, r, rfl⟩ := List.exists_cons_of_ne_nil hne
      have e1 : ((f :: r).map (wd n)).getD 0 0 = wd n f := rfl
      have e2 : ((f :: r).map (wd n)).drop 1 = r.map (wd n) := rfl
      rw [e1, e2, wd_fold]
      by_cases hN : kd ∈ kN
      · rw [if_pos hN, ← wd_true, wd_xor]
        congr 1
        funext k
        rw [opF, gb, if_neg hk, decide_eq_true hN]
        rfl
      · rw [if_neg hN]
        congr 1
        funext k
        rw [opF, gb, if_neg hk, decide_eq_false hN, Bool.xor_false]
        rfl
  full := fun b hb => by
    rcases bitB_cases hb with rfl | rfl
    · exact (wd_false n).symm
    · exact (wd_true n).symm
  jn := fun kd a b => by
    rw [jnW]
    by_cases h : kd = "and"
    · rw [if_pos h, wd_and]
      congr 1
      funext k
      rw [jnF, if_pos h]
    · rw [if_neg h, wd_or]
      congr 1
      funext k
      rw [jnF, if_neg h]
end Pw

namespace Pw
open PySem PySem.Spec PyProof.Rows L2 Evl
/-! ### the law's own defs: what they draw from the script -/
def pick (zs : List Str) (r : Int) : Str := zs.getD (r % (zs.length : Int)).toNat ""
theorem mod_lt' {r : Int} {n : Nat} (h : 0 < n) : 0 ≤ r % (n : Int) ∧ (r % (n : Int)).toNat < n := by
  have h1 := Int.emod_nonneg r (b := (n : Int)) (by omega)
  have h2 := Int.emod_lt_of_pos r (b := (n : Int)) (by omega)
  omega
theorem pick_at {zs : List Str} (h : zs ≠ []) (r : Int) : zs[(r % (zs.length : Int)).toNat]? = some (pick zs r) := by
  have h0 : 0 < zs.length := List.length_pos_iff.mpr h
  exact getD_at (mod_lt' h0).2
theorem pick_mem {zs : List Str} (h : zs ≠ []) (r : Int) : pick zs r ∈ zs := List.mem_of_getElem? (pick_at h r)
theorem atI_int {xs : List V} {i : Int} {v : V} (h0 : 0 ≤ i) (h : xs[i.toNat]? = some v) : atI xs i = some v := by
  have := atI_nat (xs := xs) (j := i.toNat) h
  rwa [Int.toNat_of_nonneg h0] at this
theorem pick_atI {zs : List Str} (h : zs ≠ []) (r : Int) {n : Int} (hn : n = (zs.length : Int)) : atI (zs.map V.str) (r % n) = some (.str (pick zs r)) := by
  subst hn
  have h0 : 0 < zs.length := List.length_pos_iff.mpr h
  exact atI_int (mod_lt' h0).1 (by rw [List.getElem?_map, pick_at h]; rfl)
theorem cutV_to (xs : List V) {i : Int} (h : 0 ≤ i) : cutV xs none (some i) = xs.take i.toNat := by
  have e : i = ((i.toNat : Nat) : Int) := (Int.toNat_of_nonneg h).symm
  rw [e]
  unfold cutV
  rw [HT.sIx_nat, HT.sIx_none, List.drop_zero, Nat.sub_zero, Int.toNat_natCast]
  by_cases h2 : i.toNat ≤ xs.length
  · rw [Nat.min_eq_left h2]
  · rw [Nat.min_eq_right (by omega), List.take_length, List.take_of_length_le (by omega)]
section
variable {K : PySem.W.Frag} {σ : L2.St} {H H' : Hp} {ta tb te t1 t2 t3 : TE} {tl th : TO} {x1 x2 : V}
theorem el_slN {xs : List V} {lo hi : Option Int} (h : EvL te σ H xs) (h1 : EvO tl σ H lo) (h2 : EvO th σ H hi) : EvL (tSl (rSlL K) te tl th) σ H (cutV xs lo hi) := fun H1 e _ q =>
  h H1 e _ fun a H2 ha e2 hx => h1 H2 (e.trans e2) _ fun H3 e3 => h2 H3 ((e.trans e2).trans e3) _ fun H4 e4 =>
    ⟨a, xs, rfl, sq_of (e4 _ _ (e3 _ _ hx)), fun p hp => q p _ (fresh_back ((e2.trans e3).trans e4) hp) (((e2.trans e3).trans e4).trans (Ex.new hp)) upd_same⟩
theorem el_catVV {a b : Addr} {xs ys : List V} (ha : Ev ta σ H (.ref a)) (hx : H a = some (.lst xs)) (hb : Ev tb σ H (.ref b)) (hy : H b = some (.lst ys)) (hl : xs.length + ys.length ≤ 100000) : EvL (tOp rCat ta tb) σ H (xs ++ ys) := fun H1 e Q q =>
  ha H1 e _ fun H2 e2 => hb H2 (e.trans e2) _ fun H3 e3 => ⟨a, b, xs, ys, rfl, rfl, e3 _ _ (e2 _ _ (e _ _ hx)), e3 _ _ (e2 _ _ (e _ _ hy)), sz_of hl, fun p hp => q p _ (fresh_back (e2.trans e3) hp) ((e2.trans e3).trans (Ex.new hp)) upd_same⟩
/-- (x, y, a new tuple) -/
theorem eg_tup3U {ys : List V} (h1 : Ev t1 σ H x1) (h2 : Ev t2 σ H x2) (h3 : EvU t3 σ H ys) : EvG (tTup (tCons t1 (tCons t2 (tCons t3 tNil)))) σ H (RetP fun v H2 => ∃ p q, v = .ref p ∧ SqT K H2 p [x1, x2, .ref q] ∧ SqT K H2 q ys) := fun H1 e Q q =>
  h1 H1 e _ fun H2 e2 => h2 H2 (e.trans e2) _ fun H3 e3 => h3 H3 ((e.trans e2).trans e3) _ fun p H4 hp e4 h4 => ⟨sz_of (show 3 ≤ 100000 by omega), fun l hl => q (.ref l) _ (((e2.trans e3).trans e4).trans (Ex.new hl)) ⟨l, p, rfl, st_of upd_same, st_of (by
    rw [upd_ne (ne_of_none h4 hl)]
    exact h4)⟩⟩
end
def cellI (ns : List Int) (k : Nat) : Int := ns.getD k 0
def richI (c k : Int) : Int := if 10 ^ 18 ≤ c then c else (c * 48271 + k * 69621 + 11) % 2147483647 * 2147483629 + ((c * 48271 + k * 69621 + 11) % 2147483647 * 16807 + c) % 2147483629
def kinds13 : List Str := ["and", "or", "nand", "nor", "xor", "xnor", "not", "buf", "and", "or", "nand", "low", "high"]
def cnts : List Int := [2, 2, 3, 1, 2, 4]
theorem kinds13_in : ∀ k ∈ kinds13, k ∈ k0 ∨ k ∈ k1 ∨ k ∈ k4 := by decide +kernel
theorem cnts_in : ∀ n ∈ cnts, 1 ≤ n ∧ n ≤ 4 := by decide +kernel
def sp__law_cell (K : PySem.W.Frag) : Sp := fun vs H Q _ => ∃ (l : Addr) (ns : List Int) (k : Nat), vs = [.ref l, .int (k : Int)] ∧ SqL K H l (ns.map V.int) ∧ RetV (.int (cellI ns k)) H Q
def sp__law_rich (K : PySem.W.Frag) : Sp := fun vs H Q _ => ∃ (c k : Int), vs = [.int c, .int k] ∧ RetV (.int (richI c k)) H Q
def GateFrom (zs : List Str) (nm : Str) (g : Gate) : Prop := g.nm = nm ∧ (∀ z ∈ g.pins, z ∈ zs) ∧ Allowed g.kd g.pins.length
def sp__law_gate (K : PySem.W.Frag) : Sp := fun vs H Q _ => ∃ (r : Int) (l : Addr) (zs : List Str) (nm : Str), vs = [.int r, .ref l, .str nm] ∧ SqL K H l (zs.map V.str) ∧ zs ≠ [] ∧ zs.length ≤ 100 ∧ RetP (fun v H2 => ∃ g, GateAt K H2 v g ∧ GateFrom zs nm g) H Q
section
variable {P : Program} {w : World} {K : PySem.W.Frag} {mg : Str → Option Value} {base : Heap}
theorem ok__law_cell (T : Tx K mg) (F : DefF K mg "_law_cell" s__law_cell)  : C8.Cal P w K mg base 1 "_law_cell" (sp__law_cell K) [] := by
  refine cal_of F sc__law_cell (fun vs H Q E h => by obtain ⟨_, _, _, rfl, _⟩ := h; rfl) (fun _ _ _ _ _ _ us hl => match us, hl with | [_, _], _ => rfl) (fun f cdv A outer s H vs Q E hr h => ?_)
  obtain ⟨l, ns, k, rfl, hx, q⟩ := h
  have hu := hu_of hr
  refine ⟨_, (pss_cons (ps_if (pt_cmpR op_lt (pv 1) (pe_callB call_len_seq (by rfl) T.n_len PySem.boot_len (pa_cons (pv 0) pa_nil)) (nomark _))
          (pss_one (ps_ret (pe_callTy call_int1 (by rfl) T.n_int (by decide +kernel) (pa_cons (pe_ix ix_list (pv 0) (pv 1) (fun _ _ => rfl)) pa_nil))))
          pss_nil)
        (pss_one (ps_ret pe_int))), ?_⟩
  refine q_when (b := decide (k < ns.length)) (et_test (ev_is (ev_op (ev_var rfl) (ev_len (ev_var rfl) hx) rv_I0) ?_)) (fun hb H1 e1 => ?_) (fun hb H1 e1 => ?_)
  · rw [List.length_map]
    congr 1
    rw [Bool.eq_iff_iff]
    simp
  · have hb := of_decide_eq_true hb
    exact s_ret (ev_int (i := cellI ns k) (ev_op (ev_var rfl) (ev_var rfl) (rv_ixL (ex_l e1 hx) (atI_nat (by rw [List.getElem?_map, getD_at (d := 0) hb]; rfl))))) fun H2 e2 => q H2 (e1.trans e2)
  · have hb := of_decide_eq_false hb
    have : cellI ns k = 0 := by
      rw [cellI, List.getD_eq_getElem?_getD, List.getElem?_eq_none (by omega)]
      rfl
    rw [this] at q
    exact s_ret ev_c fun H2 e2 => q H2 (e1.trans e2)
theorem ok__law_rich (T : Tx K mg) (F : DefF K mg "_law_rich" s__law_rich)  : C8.Cal P w K mg base 1 "_law_rich" (sp__law_rich K) [] := by
  refine cal_of F sc__law_rich (fun vs H Q E h => by obtain ⟨_, _, rfl, _⟩ := h; rfl) (fun _ _ _ _ _ _ us hl => match us, hl with | [_, _], _ => rfl) (fun f cdv A outer s H vs Q E hr h => ?_)
  obtain ⟨c, k, rfl, q⟩ := h
  have hu := hu_of hr
  refine ⟨_, (pss_cons (ps_if (pt_cmpR op_ge (pv 0) (pe_op op_pow pe_int pe_int) (nomark _))
          (pss_one (ps_ret (pe_callTy call_int1 (by rfl) T.n_int (by decide +kernel) (pa_cons (pv 0) pa_nil))))
          pss_nil)
        (pss_cons (ps_set (i := 2) sc__law_rich.nd rfl (Or.inl rfl) (pe_op op_mod (pe_callTy call_int1 (by rfl) T.n_int (by decide +kernel) (pa_cons (pe_op op_add (pe_op op_add (pe_op op_mul (pv 0) pe_int) (pe_op op_mul (pv 1) pe_int)) pe_int) pa_nil)) pe_int))
        (pss_one (ps_ret (pe_op op_add (pe_op op_mul (pv 2) pe_int) (pe_op op_mod (pe_callTy call_int1 (by rfl) T.n_int (by decide +kernel) (pa_cons (pe_op op_add (pe_op op_mul (pv 2) pe_int) (pv 0)) pa_nil)) pe_int)))))), ?_⟩
  refine q_when (b := decide (10 ^ 18 ≤ c)) (et_test (ev_op (ev_var rfl) (ev_op ev_c ev_c (rv_I ⟨by decide, by decide, by decide⟩)) rv_I0)) (fun hb H1 e1 => ?_) (fun hb H1 e1 => ?_)
  · rw [richI, if_pos (of_decide_eq_true hb)] at q
    exact s_ret (ev_int (ev_var rfl)) fun H2 e2 => q H2 (e1.trans e2)
  · rw [richI, if_neg (of_decide_eq_false hb)] at q
    have hm0 := Int.emod_nonneg (c * 48271 + k * 69621 + 11) (b := 2147483647) (by decide)
    have hm1 := Int.emod_lt_of_pos (c * 48271 + k * 69621 + 11) (b := 2147483647) (by decide)
    refine q_asg (ev_op (ev_int (ev_op (ev_op (ev_op (ev_var rfl) ev_c (rv_I (.inr ⟨by decide, by decide⟩))) (ev_op (ev_var rfl) ev_c (rv_I (.inr ⟨by decide, by decide⟩))) rv_I0) ev_c rv_I0)) ev_c (rv_I (by decide))) fun H2 e2 => ?_
    exact s_ret (ev_op (ev_op (ev_var rfl) ev_c (rv_I (.inr ⟨by decide, by decide⟩))) (ev_op (ev_int (ev_op (ev_op (ev_var rfl) ev_c (rv_I (.inr ⟨by decide, by decide⟩))) (ev_var rfl) rv_I0)) ev_c (rv_I (by decide))) rv_I0) fun H3 e3 => q H3 ((e1.trans e2).trans e3)
theorem ok__law_gate (T : Tx K mg) (F : DefF K mg "_law_gate" s__law_gate)  : C8.Cal P w K mg base 1 "_law_gate" (sp__law_gate K) [] := by
  refine cal_of F sc__law_gate (fun vs H Q E h => by obtain ⟨_, _, _, _, rfl, _⟩ := h; rfl) (fun _ _ _ _ _ _ us hl => match us, hl with | [_, _, _], _ => rfl) (fun f cdv A outer s H vs Q E hr h => ?_)
  obtain ⟨r, l, zs, nm, rfl, hx, hne, hl, q⟩ := h
  have hu := hu_of hr
  refine ⟨_, (pss_cons (ps_set (i := 3) sc__law_gate.nd rfl (Or.inl rfl) (pe_ix ix_list (pe_lst (pa_cons pe_str (pa_cons pe_str (pa_cons pe_str (pa_cons pe_str (pa_cons pe_str (pa_cons pe_str (pa_cons pe_str (pa_cons pe_str (pa_cons pe_str (pa_cons pe_str (pa_cons pe_str (pa_cons pe_str (pa_cons pe_str pa_nil)))))))))))))) (pe_op op_mod (pv 0) pe_int) (fun _ _ => rfl)))
        (pss_cons (ps_if (pt_cmpR op_in_seq (pv 3) (pe_lst (pa_cons pe_str (pa_cons pe_str pa_nil))) (by rfl))
          (pss_one (ps_ret (pe_tup (pa_cons (pv 2) (pa_cons (pv 3) (pa_cons (pe_tup pa_nil) pa_nil))))))
          pss_nil)
        (pss_cons (ps_set (i := 4) sc__law_gate.nd rfl (Or.inl rfl) (pe_ifExp (pt_cmpR op_in_seq (pv 3) (pe_lst (pa_cons pe_str (pa_cons pe_str pa_nil))) (by rfl)) pe_int (pe_ix ix_list (pe_lst (pa_cons pe_int (pa_cons pe_int (pa_cons pe_int (pa_cons pe_int (pa_cons pe_int (pa_cons pe_int pa_nil))))))) (pe_op op_mod (pe_op op_fdiv (pv 0) pe_int) pe_int) (fun _ _ => rfl))))
        (pss_cons (ps_set (i := 5) sc__law_gate.nd rfl (Or.inl rfl) (pe_lst pa_nil))
        (pss_cons (ps_for PassesOwn.never rfl (pi_range1 rfl T.n_range (pa_cons (pv 4) pa_nil)) (pg_name (i := 6) sc__law_gate.nd rfl (Or.inl rfl))
          (pss_one (ps_expr (pe_bm PySem.F.plainAttrs_list PySem.F.slot_list_append PySem.F.type_list_append mt_append (pv 5) (pa_cons (pe_ix ix_list (pv 1) (pe_op op_mod (pe_op op_fdiv (pv 0) (pe_op op_add pe_int (pe_op op_mul pe_int (pv 6)))) (pe_callB call_len_seq (by rfl) T.n_len PySem.boot_len (pa_cons (pv 1) pa_nil))) (fun _ _ => rfl)) pa_nil)))))
        (pss_one (ps_ret (pe_tup (pa_cons (pv 2) (pa_cons (pv 3) (pa_cons (pe_callTy call_tuple_of (by rfl) T.n_tuple (by decide +kernel) (pa_cons (pv 5) pa_nil)) pa_nil))))))))))), ?_⟩
  have h13 : kinds13 ≠ [] := by decide
  have hkm := pick_mem h13 r
  refine q_asg (v := .str (pick kinds13 r)) (ev_opL1 (xs := kinds13.map V.str) (el_lst (ea_cons ev_c (ea_cons ev_c (ea_cons ev_c (ea_cons ev_c (ea_cons ev_c (ea_cons ev_c (ea_cons ev_c (ea_cons ev_c (ea_cons ev_c (ea_cons ev_c (ea_cons ev_c (ea_cons ev_c (ea_cons ev_c ea_nil))))))))))))) (by decide)) (fun H1 e1 => ev_op (ev_var rfl) ev_c (rv_I (by decide))) fun p H1 hp e1 => rv_ixL (sq_of hp) (pick_atI h13 r (by rfl))) fun H1 e1 => ?_
  generalize hkd : pick kinds13 r = kd at hkm
  refine q_when (b := decide (kd ∈ k0)) (et_inLs (ev_var rfl) (ea_cons ev_c (ea_cons ev_c ea_nil)) (by decide) rfl rfl (inV_str kd k0)) (fun hb H2 e2 => ?_) (fun hb H2 e2 => ?_)
  · refine s_retG (eg_tup3U (K := K) (ev_var rfl) (ev_var rfl) (eu_tup ea_nil (by decide))) (mo_P _ _ _ (e1.trans e2) fun v H3 e3 hv => q v H3 e3 ?_)
    obtain ⟨p, p2, rfl, h1, h2⟩ := hv
    exact ⟨⟨nm, kd, []⟩, ⟨p, p2, rfl, h1, h2⟩, rfl, (fun z hz => nomatch hz), .inl ⟨of_decide_eq_true hb, rfl⟩⟩
  · have hb := of_decide_eq_false hb
    have e12 := e1.trans e2
    have hcn : (0 : Int) ≤ r / 13 % 6 ∧ (r / 13 % 6).toNat < 6 := mod_lt' (n := 6) (by decide)
    obtain ⟨n, hn⟩ : ∃ n, cnts[(r / 13 % 6).toNat]? = some n := ⟨_, List.getElem?_eq_getElem hcn.2⟩
    have hnm := cnts_in n (List.mem_of_getElem? hn)
    obtain ⟨m, hm⟩ : ∃ m : Int, m = if kd ∈ k1 then 1 else n := ⟨_, rfl⟩
    have hm14 : 1 ≤ m ∧ m ≤ 4 := by
      rw [hm]
      split <;> omega
    refine q_asg (v := .int m) (ev_if (b := decide (kd ∈ k1)) (et_inLs (ev_var rfl) (ea_cons ev_c (ea_cons ev_c ea_nil)) (by decide) rfl rfl (inV_str kd k1)) (fun h => ev_is ev_c ?_) fun h => ev_is (ev_opL1 (xs := cnts.map V.int) (el_lst (ea_cons ev_c (ea_cons ev_c (ea_cons ev_c (ea_cons ev_c (ea_cons ev_c (ea_cons ev_c ea_nil)))))) (by decide)) (fun H3 e3 => ev_op (ev_op (ev_var rfl) ev_c (rv_I ⟨by decide, by decide⟩)) ev_c (rv_I (by decide))) fun p H3 hp e3 => rv_ixL (sq_of hp) (atI_int (v := .int n) hcn.1 (by rw [List.getElem?_map, hn]; rfl))) ?_) fun H3 e3 => ?_
    · rw [hm, if_pos (of_decide_eq_true h)]
    · rw [hm, if_neg (of_decide_eq_false h)]
    refine q_asgL (el_lst ea_nil (by decide)) fun pl H4 hpl e4 hll => ?_
    have e14 := (e12.trans e3).trans e4
    have hpl0 : H pl = none := fresh_back (e12.trans e3) hpl
    refine q_forR1 (n := m) (ea_cons (ev_var rfl) ea_nil) (by omega) (fun i σ' H' => (∃ v, σ' = [some (.int r), some (.ref l), some (.str nm), some (.str kd), some (.int m), some (.ref pl), v]) ∧ Ex H H' ∧ ∃ ys : List Str, H' pl = some (.lst (ys.map V.str)) ∧ ys.length = i ∧ ∀ z ∈ ys, z ∈ zs)
      (fun H5 e5 => ⟨⟨_, rfl⟩, e14.trans e5, [], e5 _ _ hll, rfl, fun z hz => nomatch hz⟩) (fun i σ' H' hi p => ?_) (fun σ' H' p => ?_)
    · obtain ⟨⟨v, rfl⟩, e, ys, h1, h2, h3⟩ := p
      refine s_app (v := .str (pick zs (r / (78 + 31 * (i : Int))))) h1 (ev_var rfl) (ev_op (ev_var rfl) (ev_op (ev_op (ev_var rfl) (ev_op ev_c (ev_op ev_c (ev_var rfl) (rv_I (.inl ⟨by decide, by decide⟩))) rv_I0) (rv_I ⟨by omega, by omega⟩)) (ev_len (ev_var rfl) (ex_l e hx)) (rv_I (by rw [List.length_map]; have := List.length_pos_iff.mpr hne; omega))) (rv_ixL (ex_l e hx) (pick_atI hne _ (by rw [List.length_map])))) (by rw [List.length_map]; omega) fun H5 e5 => ⟨⟨_, rfl⟩, Ex.mut (e.trans e5) hpl0, ys ++ [pick zs (r / (78 + 31 * (i : Int)))], by rw [upd_same, List.map_append]; rfl, by simp [h2], fun z hz => ?_⟩
      rcases List.mem_append.mp hz with hz | hz
      · exact h3 z hz
      · rw [List.mem_singleton.mp hz]
        exact pick_mem hne _
    · obtain ⟨⟨v, rfl⟩, e, ys, h1, h2, h3⟩ := p
      refine s_retG (eg_tup3U (K := K) (ev_var rfl) (ev_var rfl) (eu_tupOfV (ev_var rfl) (sq_of h1))) (mo_P _ _ _ e fun v H5 e5 hv => q v H5 e5 ?_)
      obtain ⟨p, p2, rfl, h4, h5⟩ := hv
      refine ⟨⟨nm, kd, ys⟩, ⟨p, p2, rfl, h4, h5⟩, rfl, h3, ?_⟩
      rcases kinds13_in kd hkm with h | h | h
      · exact absurd h hb
      · refine .inr (.inl ⟨h, ?_⟩)
        show ys.length = 1
        rw [h2, hm, if_pos h]
        rfl
      · refine .inr (.inr ⟨h, ?_, ?_⟩)
        · show 1 ≤ ys.length
          omega
        · show ys.length ≤ 4
          omega
end
end Pw


namespace Pw
open PySem PySem.Spec PyProof.Rows L2 Evl
def iN : List Str := ["a", "b", "c", "d"]
def qN : List Str := ["q0", "q1"]
def gN : List Str := ["g0", "g1", "g2", "g3", "g4", "g5", "g6"]
structure CkPre (c : Ck) : Prop where
  few : Few c
  forms : FormsOk c
  names : NamesOk c
  topo : ∃ gs : List GV, gs.Perm c.gts ∧ Topo c.srcs gs
  some : c.gts ≠ []
theorem N_nd : (iN ++ qN ++ gN).Nodup := by decide +kernel
theorem N_U : ∀ z ∈ iN ++ qN ++ gN, z ∈ U := by decide +kernel
theorem allowed_few {k : Str} {n : Nat} (h : Allowed k n) : n ≤ 4 := by
  rcases h with ⟨_, e⟩ | ⟨_, e⟩ | ⟨_, _, e⟩ <;> omega
theorem topo_mem {ks : List Str} {l : List GV} (t : Topo ks l) {g : GV} (hg : g ∈ l) : ∀ z ∈ g.2.pins, z ∈ ks ++ nms l := by
  intro z hz
  obtain ⟨i, hi⟩ := List.mem_iff_getElem?.mp hg
  have := topo_at t hi z hz
  rcases List.mem_append.mp this with h | h
  · exact List.mem_append_left _ h
  · refine List.mem_append_right _ ?_
    rw [nms, List.mem_map] at h ⊢
    obtain ⟨x, hx, e⟩ := h
    exact ⟨x, List.mem_of_mem_take hx, e⟩
theorem pre_of {c : Ck} {ni nq ng : Nat} {gs : List GV} (hi : c.ins = iN.take ni) (hq : c.regs.map (·.2.1) = qN.take nq) (hp : gs.Perm c.gts) (hn : nms gs = gN.take ng) (ht : Topo (iN.take ni ++ qN.take nq) gs) (ha : ∀ g ∈ gs, Allowed g.2.kd g.2.pins.length)
    (hg : 1 ≤ ng) (h1 : ∀ z ∈ c.takens, z ∈ iN.take ni ++ qN.take nq ++ gN.take ng) (h2 : ∀ z ∈ c.outs, z ∈ iN.take ni ++ qN.take nq ++ gN.take ng) (h3 : c.outs.length ≤ 3) : CkPre c := by
  have hsrc : c.srcs = iN.take ni ++ qN.take nq := by rw [Ck.srcs, hi, hq]
  have hpn : (nms gs).Perm (nms c.gts) := hp.map _
  have hl : c.lines.Perm (iN.take ni ++ qN.take nq ++ gN.take ng) := by
    rw [Ck.lines, hsrc, ← hn]
    exact List.Perm.append_left _ hpn.symm
  have hsub : List.Sublist (iN.take ni ++ qN.take nq ++ gN.take ng) (iN ++ qN ++ gN) := List.Sublist.append (List.Sublist.append (List.take_sublist _ _) (List.take_sublist _ _)) (List.take_sublist _ _)
  have hU : ∀ z ∈ iN.take ni ++ qN.take nq ++ gN.take ng, z ∈ U := fun z hz => N_U z (hsub.subset hz)
  have hlen : c.lines.length ≤ 13 := by
    rw [hl.length_eq]
    exact hsub.length_le
  have hpin : ∀ g ∈ c.gts, ∀ z ∈ g.2.pins, z ∈ iN.take ni ++ qN.take nq ++ gN.take ng := fun g hg z hz => by
    rw [← hn]
    exact topo_mem ht (hp.mem_iff.mpr hg) z hz
  have hnm : ∀ g ∈ c.gts, g.2.nm ∈ gN.take ng := fun g hg => by
    rw [← hn]
    exact hpn.mem_iff.mpr (List.mem_map.mpr ⟨g, hg, rfl⟩)
  have hal : ∀ g ∈ c.gts, Allowed g.2.kd g.2.pins.length := fun g hg => ha g (hp.mem_iff.mpr hg)
  have hrl : c.regs.length ≤ 2 := by
    have := congrArg List.length hq
    rw [List.length_map] at this
    rw [this]
    exact Nat.le_trans (List.length_take_le' _ _) (by decide)
  have hgl : c.gts.length ≤ 7 := by
    have := congrArg List.length hn
    rw [nms, List.length_map, hp.length_eq] at this
    rw [this]
    exact Nat.le_trans (List.length_take_le' _ _) (by decide)
  have hil : c.ins.length ≤ 4 := by
    rw [hi]
    exact Nat.le_trans (List.length_take_le' _ _) (by decide)
  refine ⟨⟨by omega, by omega, by omega, by omega, fun g hg => allowed_few (hal g hg)⟩, ⟨?_, ?_, ?_⟩, ⟨?_, ?_, by omega, ?_⟩, ⟨gs, hp, by rw [hsrc]; exact ht⟩, ?_⟩
  · intro z hz
    rcases List.mem_append.mp hz with h | h
    · rw [hi] at h
      exact hU z (List.mem_append_left _ (List.mem_append_left _ h))
    · exact hU z (h2 z h)
  · intro r hr
    refine ⟨?_, hU _ (h1 _ (List.mem_map.mpr ⟨r, hr, rfl⟩))⟩
    have : r.2.1 ∈ c.regs.map (·.2.1) := List.mem_map.mpr ⟨r, hr, rfl⟩
    rw [hq] at this
    exact hU _ (List.mem_append_left _ (List.mem_append_right _ this))
  · intro g hg
    exact ⟨hU _ (List.mem_append_right _ (hnm g hg)), fun z hz => hU z (hpin g hg z hz), hal g hg⟩
  · exact hl.nodup_iff.mpr (N_nd.sublist hsub)
  · intro z hz
    rw [hl.mem_iff]
    rw [Ck.uses, List.mem_append, List.mem_append, List.mem_flatMap] at hz
    rcases hz with (⟨g, hg, hz⟩ | hz) | hz
    · exact hpin g hg z hz
    · exact h1 z hz
    · exact h2 z hz
  · rw [Ck.srcs, List.length_append, List.length_map]
    omega
  · intro n
    have := hp.length_eq
    rw [n] at this
    have h4 := congrArg List.length hn
    rw [nms, List.length_map, this, List.length_take] at h4
    simp only [List.length_nil] at h4
    have : gN.length = 7 := by decide
    omega
def opick (zs : List Str) (x : Int) : Str := zs.getD ((zs.length : Int) - 1 - x % (if (zs.length : Int) < 4 then (zs.length : Int) else 4)).toNat ""
theorem opick_ix {zs : List Str} (h : zs ≠ []) (x : Int) : 0 ≤ (zs.length : Int) - 1 - x % (if (zs.length : Int) < 4 then (zs.length : Int) else 4) ∧ ((zs.length : Int) - 1 - x % (if (zs.length : Int) < 4 then (zs.length : Int) else 4)).toNat < zs.length := by
  have h0 : 0 < zs.length := List.length_pos_iff.mpr h
  split
  · have := Int.emod_nonneg x (b := (zs.length : Int)) (by omega)
    have := Int.emod_lt_of_pos x (b := (zs.length : Int)) (by omega)
    omega
  · have := Int.emod_nonneg x (b := 4) (by omega)
    have := Int.emod_lt_of_pos x (b := 4) (by omega)
    omega
theorem opick_mem {zs : List Str} (h : zs ≠ []) (x : Int) : opick zs x ∈ zs := List.mem_of_getElem? (getD_at (opick_ix h x).2)
theorem gN_str : ∀ i, i < 7 → ("g" : Str) ++ ((toString ((i : Nat) : Int)) : Str) = gN.getD i "" := by decide +kernel
theorem gN_len : ∀ i, i < 7 → ((toString ((i : Nat) : Int)) : Str).length ≤ 10 := by decide +kernel
theorem gN_at {i : Nat} (h : i < 7) : gN[i]? = some (gN.getD i "") := getD_at h
def sp__law_parts (K : PySem.W.Frag) : Sp := fun vs H Q _ => ∃ (l : Addr) (ns : List Int), vs = [.ref l, .int 4] ∧ SqL K H l (ns.map V.int) ∧
  RetP (fun v H2 => ∃ (p i r g o : Addr) (c : Ck), v = .ref p ∧ SqT K H2 p [.ref i, .ref r, .ref g, .ref o] ∧ SqL K H2 i (c.ins.map V.str) ∧ SqL K H2 r (c.regs.map (·.1)) ∧ SqL K H2 g (c.gts.map (·.1)) ∧ SqL K H2 o (c.outs.map V.str) ∧ (∀ p ∈ c.regs, RegAt K H2 p.1 p.2) ∧ (∀ p ∈ c.gts, GateAt K H2 p.1 p.2) ∧ CkPre c) H Q
def CkIs (K : PySem.W.Frag) (H : Hp) (a : Addr) (c : Ck) (od : List GV) : Prop := CkUp K H a c od ∧ c.gts ≠ []
def sp__law_circuit (K : PySem.W.Frag) : Sp := fun vs H Q _ => ∃ (l : Addr) (ns : List Int), vs = [.ref l, .int 4] ∧ SqL K H l (ns.map V.int) ∧ RetF (fun a H2 => ∃ c od, CkIs K H2 a c od) H Q
def sp__law_version (K : PySem.W.Frag) : Sp := fun vs H Q _ => ∃ (a : Addr) (r : Int) (c : Ck) (od : List GV), vs = [.ref a, .int r] ∧ CkIs K H a c od ∧ RetP (fun v H2 => ∃ ver, VerAt K H2 v ver ∧ ver.Ok c od) H Q
def sp__law_refused (K : PySem.W.Frag) : Sp := fun vs H Q _ => ∃ (a l : Addr) (c : Ck) (od : List GV) (ps : List PV) (b : Bool), vs = [.ref a, .ref l] ∧ CkUp K H a c od ∧ PatsAt K H l ps ∧
  ((b = false ∧ ∀ p ∈ ps, Good c.srcs.length p.2) ∨ (b = true ∧ ∃ (gs : List PV) (x : PV), ps = gs ++ [x] ∧ (∀ p ∈ gs, Good c.srcs.length p.2) ∧ x.2.length ≠ c.srcs.length ∧ x.2.length ≤ 40000)) ∧ RetV (.bl b) H Q
section
variable {K : PySem.W.Frag} {σ : L2.St} {H H' : Hp} {ta te : TE} {D : Ends} {tz : TS}
theorem s_appP {l : Addr} {xs : List V} {P : V → Hp → Prop} (hl : H l = some (.lst xs)) (ha : Ev ta σ H (.ref l)) (h : EvG te σ H (RetP P)) (hz : xs.length < 100000) (k : ∀ v H1, Ex H H1 → P v H1 → D.nx σ (upd H1 l (.lst (xs ++ [v])))) :
    tDrop (tBM K "list" rAppend ta (tCons te tNil)) D σ H := ha H (Ex.refl H) _ fun H1 e1 =>
  ⟨Or.inl ⟨rfl, xs, sq_of (e1 l _ hl)⟩, h H1 e1 _ fun v H2 e2 hP => ⟨l, xs, v, rfl, rfl, e2 l _ (e1 l _ hl), sz_lt hz, k v H2 (e1.trans e2) hP⟩⟩
theorem q_appP {l : Addr} {xs : List V} {P : V → Hp → Prop} (hl : H l = some (.lst xs)) (ha : Ev ta σ H (.ref l)) (h : EvG te σ H (RetP P)) (hz : xs.length < 100000) (k : ∀ v H1, Ex H H1 → P v H1 → tz D σ (upd H1 l (.lst (xs ++ [v])))) :
    tSeq (tDrop (tBM K "list" rAppend ta (tCons te tNil))) tz D σ H := s_appP (D := { D with nx := tz D }) hl ha h hz k
theorem rc_str {i : Int} (h : i.natAbs.log2 < 1920) : RC (fun xs H Q => ∃ i : Int, xs = [.int i] ∧ i.natAbs.log2 < 1920 ∧ Q (.str (toString i)) H) [.int i] H (.str (toString i)) := fun H1 _ _ q => ⟨i, rfl, h, q H1 (Ex.refl H1)⟩
theorem rv_addS {x y : Str} (h : x.length + y.length ≤ 100000) : RV (fun x y H Q => ∃ i j : Str, x = .str i ∧ y = .str j ∧ i.length + j.length ≤ sizeLine ∧ Q (.str (i ++ j)) H) (.str x) (.str y) H (.str (x ++ y)) := fun H1 _ _ q => ⟨x, y, rfl, rfl, sz_of h, q H1 (Ex.refl H1)⟩
end
section
variable {P : Program} {w : World} {K : PySem.W.Frag} {mg : Str → Option Value} {base : Heap}
theorem eg_cell {σ : L2.St} {H : Hp} {E : XK} {t1 t2 : TE} {l : Addr} {ns : List Int} {k : Nat} {i : Int} (h1 : Ev t1 σ H (.ref l)) (h2 : Ev t2 σ H (.int i)) (hk : i = (k : Int)) (hx : SqL K H l (ns.map V.int)) : Ev (tCall (sp__law_cell K) [] E (tCons t1 (tCons t2 tNil))) σ H (.int (cellI ns k)) := by
  subst hk
  exact ev_g (eg_call (ea_cons h1 (ea_cons h2 ea_nil)) mo_V fun H1 e Q E q => ⟨l, ns, k, rfl, ex_l e hx, q⟩)
theorem eg_rich {σ : L2.St} {H : Hp} {E : XK} {t1 t2 : TE} {c k : Int} (h1 : Ev t1 σ H (.int c)) (h2 : Ev t2 σ H (.int k)) : Ev (tCall (sp__law_rich K) [] E (tCons t1 (tCons t2 tNil))) σ H (.int (richI c k)) :=
  ev_g (eg_call (ea_cons h1 (ea_cons h2 ea_nil)) mo_V fun H1 e Q E q => ⟨c, k, rfl, q⟩)
theorem ok__law_parts (T : Tx K mg) (F : DefF K mg "_law_parts" s__law_parts) (g__law_cell : C8.Cal P w K mg base 1 "_law_cell" (sp__law_cell K) []) (g__law_gate : C8.Cal P w K mg base 1 "_law_gate" (sp__law_gate K) []) (g__law_rich : C8.Cal P w K mg base 1 "_law_rich" (sp__law_rich K) []) : C8.Cal P w K mg base 2 "_law_parts" (sp__law_parts K) [] := by
  refine cal_of F sc__law_parts (fun vs H Q E h => by obtain ⟨_, _, rfl, _⟩ := h; rfl) (fun _ _ _ _ _ _ us hl => match us, hl with | [_, _], _ => rfl) (fun f cdv A outer s H vs Q E hr h => ?_)
  obtain ⟨l, ns, rfl, hx, k⟩ := h
  have hu := hu_of hr
  refine ⟨_, (pss_cons (ps_set (i := 2) sc__law_parts.nd rfl (Or.inl rfl) (C8.pe_c g__law_cell hr (by decide) rfl (pa_cons (pv 0) (pa_cons pe_int pa_nil))))
        (pss_cons (ps_set (i := 3) sc__law_parts.nd rfl (Or.inl rfl) (pe_slice sl_list (pe_lst (pa_cons pe_str (pa_cons pe_str (pa_cons pe_str (pa_cons pe_str pa_nil))))) po_none (po_some (pe_op op_add pe_int (pe_op op_mod (pv 2) (pv 1))))))
        (pss_cons (ps_set (i := 4) sc__law_parts.nd rfl (Or.inr rfl) (pe_slice sl_list (pe_lst (pa_cons pe_str (pa_cons pe_str pa_nil))) po_none (po_some (pe_op op_mod (pe_op op_fdiv (pv 2) pe_int) pe_int))))
        (pss_cons (ps_set (i := 5) sc__law_parts.nd rfl (Or.inr rfl) (pe_op op_cat (pv 3) (pv 4)))
        (pss_cons (ps_set (i := 6) sc__law_parts.nd rfl (Or.inl rfl) (pe_lst pa_nil))
        (pss_cons (ps_for PassesOwn.never rfl (pi_range1 rfl T.n_range (pa_cons (pe_op op_add pe_int (pe_op op_mod (pe_op op_fdiv (pv 2) pe_int) pe_int)) pa_nil)) (pg_name (i := 7) sc__law_parts.nd rfl (Or.inl rfl))
          (pss_cons (ps_expr (pe_bm PySem.F.plainAttrs_list PySem.F.slot_list_append PySem.F.type_list_append mt_append (pv 6) (pa_cons (C8.pe_c g__law_gate hr (by decide) rfl (pa_cons (C8.pe_c g__law_rich hr (by decide) rfl (pa_cons (C8.pe_c g__law_cell hr (by decide) rfl (pa_cons (pv 0) (pa_cons (pe_op op_add pe_int (pv 7)) pa_nil))) (pa_cons (pv 7) pa_nil))) (pa_cons (pv 5) (pa_cons (pe_op op_add_str pe_str (pe_callTy call_str_int (by rfl) T.n_str (by decide +kernel) (pa_cons (pv 7) pa_nil))) pa_nil)))) pa_nil)))
            (pss_one (ps_set (i := 5) sc__law_parts.nd rfl (Or.inr rfl) (pe_op op_cat (pv 5) (pe_lst (pa_cons (pe_op op_add_str pe_str (pe_callTy call_str_int (by rfl) T.n_str (by decide +kernel) (pa_cons (pv 7) pa_nil))) pa_nil)))))))
        (pss_cons (ps_set (i := 8) sc__law_parts.nd rfl (Or.inr rfl) (C8.pe_c g__law_rich hr (by decide) rfl (pa_cons (C8.pe_c g__law_cell hr (by decide) rfl (pa_cons (pv 0) (pa_cons pe_int pa_nil))) (pa_cons pe_int pa_nil))))
        (pss_cons (ps_setLc (i := 9) (own := [("_law_k", 7)]) (g := gName 7) (tt := tYes) rfl sc__law_parts.nd rfl rfl (sw_true rfl rfl rfl (by decide +kernel)) (pi_range1 rfl T.n_range (pa_cons (pe_callB call_len_seq (by rfl) T.n_len PySem.boot_len (pa_cons (pv 4) pa_nil)) pa_nil)) (blkOk_by (N := ["_law_script", "_law_most", "_law_cell_here", "_law_inputs", "_law_names", "_law_known", "_law_gates", "_law_k", "_law_rich_here", "_law_registers", "_law_outputs"]) (sc := defScope s__law_parts) (by decide +kernel)) (fun _ _ _ _ _ => (pg_name (i := 7) sc__law_parts.nd rfl (Or.inl rfl))) (fun _ _ _ _ _ => pts_nil) (fun _ _ _ _ _ => (pe_tup (pa_cons (pe_ix (r := rIxL K) ix_list (pv 4) (pv 7) (fun _ _ => rfl)) (pa_cons (pe_ix (r := rIxL K) ix_list (pv 5) (pe_op op_mod (pe_op op_fdiv (pv 8) (pe_op op_add pe_int (pv 7))) (pe_callB (r := rLenS K) call_len_seq (by rfl) T.n_len PySem.boot_len (pa_cons (pv 5) pa_nil))) (fun _ _ => rfl)) pa_nil)))))
        (pss_cons (ps_setLc (i := 10) (own := [("_law_k", 7)]) (g := gName 7) (tt := tYes) rfl sc__law_parts.nd rfl rfl (sw_true rfl rfl rfl (by decide +kernel)) (pi_range1 rfl T.n_range (pa_cons (pe_op op_add pe_int (pe_op op_mod (pv 8) pe_int)) pa_nil)) (blkOk_by (N := ["_law_script", "_law_most", "_law_cell_here", "_law_inputs", "_law_names", "_law_known", "_law_gates", "_law_k", "_law_rich_here", "_law_registers", "_law_outputs"]) (sc := defScope s__law_parts) (by decide +kernel)) (fun _ _ _ _ _ => (pg_name (i := 7) sc__law_parts.nd rfl (Or.inl rfl))) (fun _ _ _ _ _ => pts_nil) (fun _ _ _ _ _ => (pe_ix (r := rIxL K) ix_list (pv 5) (pe_op op_sub (pe_op op_sub (pe_callB (r := rLenS K) call_len_seq (by rfl) T.n_len PySem.boot_len (pa_cons (pv 5) pa_nil)) pe_int) (pe_op op_mod (pe_op op_fdiv (pv 8) (pe_op op_add pe_int (pv 7))) (pe_callB (call_min2 rfl) (by rfl) T.n_min (by decide +kernel) (pa_cons pe_int (pa_cons (pe_callB (r := rLenS K) call_len_seq (by rfl) T.n_len PySem.boot_len (pa_cons (pv 5) pa_nil)) pa_nil))))) (fun _ _ => rfl))))
        (pss_cons (ps_if (pt_cmpR op_eq (pe_op op_mod (pe_op op_fdiv (pv 2) pe_int) pe_int) pe_int (nomark _))
          (pss_one (ps_set (i := 6) sc__law_parts.nd rfl (Or.inl rfl) (pe_revL (pv 6))))
          pss_nil)
        (pss_one (ps_ret (pe_tup (pa_cons (pv 3) (pa_cons (pv 9) (pa_cons (pv 6) (pa_cons (pv 10) pa_nil))))))))))))))))), ?_⟩
  refine q_asg (eg_cell (k := 0) (ev_var rfl) ev_c rfl hx) fun H1 e1 => ?_
  generalize cellI ns 0 = cell
  have hc4 := mod_lt' (r := cell) (n := 4) (by decide)
  have hc3 := mod_lt' (r := cell / 4) (n := 3) (by decide)
  have hc7 := mod_lt' (r := cell / 12) (n := 7) (by decide)
  refine q_asgL (el_slN (xs := iN.map V.str) (el_lst (ea_cons ev_c (ea_cons ev_c (ea_cons ev_c (ea_cons ev_c ea_nil)))) (by decide)) eo_none (eo_some (ev_op ev_c (ev_op (ev_var rfl) (ev_var rfl) (rv_I (by decide))) rv_I0))) fun pi H2 hpi e2 hli => ?_
  rw [cutV_to _ (by omega), ← List.map_take] at hli
  refine q_asgL (el_slN (xs := qN.map V.str) (el_lst (ea_cons ev_c (ea_cons ev_c ea_nil)) (by decide)) eo_none (eo_some (ev_op (ev_op (ev_var rfl) ev_c (rv_I ⟨by decide, by decide⟩)) ev_c (rv_I (by decide))))) fun pq H3 hpq e3 hlq => ?_
  rw [cutV_to _ (by omega), ← List.map_take] at hlq
  have hni : 1 ≤ (1 + cell % 4).toNat := by omega
  generalize (1 + cell % 4).toNat = ni at hli hni
  generalize (cell / 4 % 3).toNat = nq at hlq
  have hil : (iN.take ni).length ≤ 4 := Nat.le_trans (List.length_take_le' _ _) (by decide)
  have hql : (qN.take nq).length ≤ 2 := Nat.le_trans (List.length_take_le' _ _) (by decide)
  have hine : iN.take ni ≠ [] := by
    intro n
    have := congrArg List.length n
    rw [List.length_take] at this
    have h4 : iN.length = 4 := by decide
    simp only [List.length_nil] at this
    omega
  refine q_asgL (el_catVV (ev_var rfl) (e3 _ _ hli) (ev_var rfl) hlq (by rw [List.length_map, List.length_map]; omega)) fun pk0 H4 hpk0 e4 hlk0 => ?_
  rw [← List.map_append] at hlk0
  refine q_asgL (el_lst ea_nil (by decide)) fun pg H5 hpg e5 hlg => ?_
  have e13 := (e1.trans e2).trans e3
  have e14 := e13.trans e4
  have e15 := e14.trans e5
  have hpg0 : H pg = none := fresh_back e14 hpg
  have hx5 := ex_l e15 hx
  have hli5 := e5 _ _ (e4 _ _ (e3 _ _ hli))
  have hlq5 := e5 _ _ (e4 _ _ hlq)
  have hpgi : pg ≠ pi := fun n => by rw [n, e4 _ _ (e3 _ _ hli)] at hpg; cases hpg
  have hpgq : pg ≠ pq := fun n => by rw [n, e4 _ _ hlq] at hpg; cases hpg
  have hpgk : pg ≠ pk0 := fun n => by rw [n, hlk0] at hpg; cases hpg
  refine q_forR1 (n := 1 + cell / 12 % 7) (ea_cons (ev_op ev_c (ev_op (ev_op (ev_var rfl) ev_c (rv_I ⟨by decide, by decide⟩)) ev_c (rv_I (by decide))) rv_I0) ea_nil) (by omega) (fun i σ' H' => ∃ (pk : Addr) (gs : List GV) (v7 : Option V), σ' = [some (.ref l), some (.int 4), some (.int cell), some (.ref pi), some (.ref pq), some (.ref pk), some (.ref pg), v7, none, none, none] ∧ Ex H H' ∧ H' pi = some (.lst ((iN.take ni).map V.str)) ∧ H' pq = some (.lst ((qN.take nq).map V.str)) ∧ H' pk = some (.lst ((iN.take ni ++ qN.take nq ++ gN.take i).map V.str)) ∧ H' pg = some (.lst (gs.map (·.1))) ∧ pg ≠ pk ∧ (∀ g ∈ gs, GateAt K H' g.1 g.2) ∧ nms gs = gN.take i ∧ Topo (iN.take ni ++ qN.take nq) gs ∧ ∀ g ∈ gs, Allowed g.2.kd g.2.pins.length)
    (fun H6 e6 => ⟨pk0, [], _, rfl, e15.trans e6, e6 _ _ hli5, e6 _ _ hlq5, by simpa using e6 _ _ (e5 _ _ hlk0), e6 _ _ hlg, hpgk, (fun g hg => nomatch hg), by simp [nms], trivial, fun g hg => nomatch hg⟩) (fun i σ' H' hi p => ?_) (fun σ' H' p => ?_)
  · obtain ⟨pk, gs, v7, rfl, e, g1, g2, g3, g4, g5, g6, g7, g8, g9⟩ := p
    have hi7 : i < 7 := by omega
    have hgl : gs.length ≤ 7 := by
      have := congrArg List.length g7
      rw [nms, List.length_map, List.length_take] at this
      have h7 : gN.length = 7 := by decide
      omega
    have hkne : iN.take ni ++ qN.take nq ++ gN.take i ≠ [] := fun n => by
      rw [List.append_eq_nil_iff, List.append_eq_nil_iff] at n
      exact hine n.1.1
    have hkl : (iN.take ni ++ qN.take nq ++ gN.take i).length ≤ 13 := by
      rw [List.length_append, List.length_append, List.length_take (l := gN)]
      omega
    have hnm : ∀ H2, Ev (tOp (fun x y H Q => ∃ i j : Str, x = .str i ∧ y = .str j ∧ i.length + j.length ≤ sizeLine ∧ Q (.str (i ++ j)) H) (tC (.str "g")) (tCB (fun xs H Q => ∃ i : Int, xs = [.int i] ∧ i.natAbs.log2 < 1920 ∧ Q (.str (toString i)) H) (tCons (tVar 7) tNil))) [some (.ref l), some (.int 4), some (.int cell), some (.ref pi), some (.ref pq), some (.ref pk), some (.ref pg), some (.int (i : Int)), none, none, none] H2 (.str (gN.getD i "")) := fun H2 =>
      ev_is (ev_op ev_c (ev_cb (ea_cons (ev_var rfl) ea_nil) (rc_str (by
        have : ∀ i, i < 7 → ((i : Nat) : Int).natAbs.log2 < 1920 := by decide +kernel
        exact this i hi7))) (rv_addS (by have := gN_len i hi7; have h1 : ("g" : Str).length = 1 := by decide +kernel
                                         omega))) (by rw [gN_str i hi7])
    refine q_appP (P := fun v H2 => ∃ g, GateAt K H2 v g ∧ GateFrom (iN.take ni ++ qN.take nq ++ gN.take i) (gN.getD i "") g) g4 (ev_var rfl) (eg_call (ea_cons (eg_rich (eg_cell (k := 1 + i) (ev_var rfl) (ev_op ev_c (ev_var rfl) rv_I0) (by omega) (ex_l e hx)) (ev_var rfl)) (ea_cons (ev_var rfl) (ea_cons (hnm _) ea_nil))) mo_P fun H6 e6 Q E q => ⟨_, pk, _, _, rfl, sq_of (e6 _ _ g3), hkne, by omega, q⟩) (by rw [List.length_map]; omega) fun v H6 e6 hv => ?_
    obtain ⟨g, hg1, hg2, hg3, hg4⟩ := hv
    have g46 := e6 _ _ g4
    have et : ExT H6 (upd H6 pg (.lst (gs.map (·.1) ++ [v]))) := ExT.lst g46
    have hgat : ∀ y ∈ gs ++ [(v, g)], GateAt K (upd H6 pg (.lst (gs.map (·.1) ++ [v]))) y.1 y.2 := by
      intro y hy
      rcases List.mem_append.mp hy with hy | hy
      · obtain ⟨a, q, h1, h2, h3⟩ := (g6 y hy).mono e6
        exact ⟨a, q, h1, ext_t et h2, ext_t et h3⟩
      · rw [List.mem_singleton.mp hy]
        obtain ⟨a, q, h1, h2, h3⟩ := hg1
        exact ⟨a, q, h1, ext_t et h2, ext_t et h3⟩
    have e7 : Ex H (upd H6 pg (.lst (gs.map (·.1) ++ [v]))) := Ex.mut (e.trans e6) hpg0
    have k1 : (upd H6 pg (.lst (gs.map (·.1) ++ [v]))) pi = some (.lst ((iN.take ni).map V.str)) := by
      rw [upd_ne (Ne.symm hpgi)]
      exact e6 _ _ g1
    have k2 : (upd H6 pg (.lst (gs.map (·.1) ++ [v]))) pq = some (.lst ((qN.take nq).map V.str)) := by
      rw [upd_ne (Ne.symm hpgq)]
      exact e6 _ _ g2
    have k3 : (upd H6 pg (.lst (gs.map (·.1) ++ [v]))) pk = some (.lst ((iN.take ni ++ qN.take nq ++ gN.take i).map V.str)) := by
      rw [upd_ne (Ne.symm g5)]
      exact e6 _ _ g3
    have k4 : (upd H6 pg (.lst (gs.map (·.1) ++ [v]))) pg = some (.lst ((gs ++ [(v, g)]).map (·.1))) := by
      rw [upd_same, List.map_append]
      rfl
    generalize upd H6 pg (.lst (gs.map (·.1) ++ [v])) = J at hgat e7 k1 k2 k3 k4 ⊢
    refine s_asgL (el_catV (ev_var rfl) k3 (el_lst (ea_cons (hnm _) ea_nil) (by simp)) (by simp only [List.length_map, List.length_cons, List.length_nil]; omega)) fun pk2 H8 hpk2 e8 hlk2 => ?_
    refine ⟨pk2, gs ++ [(v, g)], some (.int (i : Int)), rfl, e7.trans e8, e8 _ _ k1, e8 _ _ k2, ?_, e8 _ _ k4, (fun n => by rw [← n, k4] at hpk2; cases hpk2), (fun y hy => (hgat y hy).mono e8), ?_, topo_snoc g8 ?_, ?_⟩
    · rw [hlk2, take_snoc (gN_at hi7), ← List.append_assoc, List.map_append (l₂ := [gN.getD i ""])]
      rfl
    · rw [nms_append, g7, take_snoc (gN_at hi7)]
      show _ ++ [g.nm] = _
      rw [hg2]
    · intro z hz
      have := hg3 z hz
      rw [← g7] at this
      exact this
    · intro y hy
      rcases List.mem_append.mp hy with hy | hy
      · exact g9 y hy
      · rw [List.mem_singleton.mp hy]
        exact hg4
  · obtain ⟨pk, gs, v7, rfl, e, g1, g2, g3, g4, g5, g6, g7, g8, g9⟩ := p
    have hng : 1 ≤ (1 + cell / 12 % 7).toNat := by omega
    generalize (1 + cell / 12 % 7).toNat = ng at g3 g7 hng
    have hkne : iN.take ni ++ qN.take nq ++ gN.take ng ≠ [] := fun n => by
      rw [List.append_eq_nil_iff, List.append_eq_nil_iff] at n
      exact hine n.1.1
    have hkl : (iN.take ni ++ qN.take nq ++ gN.take ng).length ≤ 13 := by
      have h7 : gN.length = 7 := by decide
      rw [List.length_append, List.length_append, List.length_take (l := gN)]
      omega
    generalize hzs : iN.take ni ++ qN.take nq ++ gN.take ng = zs at g3 hkne hkl
    refine q_asg (eg_rich (eg_cell (k := 8) (ev_var rfl) ev_c rfl (ex_l e hx)) ev_c) fun H6 e6 => ?_
    generalize richI (cellI ns 8) 8 = rr
    have hr3 := mod_lt' (r := rr) (n := 3) (by decide)
    have e06 := e.trans e6
    refine q_asgG (eg_lcR (n := (qN.take nq).length) (P := fun j v H2 => RegAt K H2 v ((qN.take nq).getD j "", pick zs (rr / (3 + (j : Int))))) (fun j v H1 H2 et h => ?_) (ea_cons (ev_is (ev_len (ev_var rfl) (sq_of (e6 _ _ g2))) (by rw [List.length_map])) ea_nil) (by omega) (fun _ => rfl) fun j H7 e7 hj => ?_) ?_
    · obtain ⟨a, h1, h2⟩ := h
      exact ⟨a, h1, ext_t et h2⟩
    · intro H8 e8 Q q
      refine eu_tup (ea_cons (ev_op (ev_var rfl) (ev_var rfl) (rv_ixL (sq_of (e7 _ _ (e6 _ _ g2))) (atI_nat (v := .str ((qN.take nq).getD j "")) (by rw [List.getElem?_map, getD_at hj]; rfl)))) (ea_cons (ev_op (ev_var rfl) (ev_op (ev_op (ev_var rfl) (ev_op ev_c (ev_var rfl) rv_I0) (rv_I ⟨by omega, by omega⟩)) (ev_len (ev_var rfl) (sq_of (e7 _ _ (e6 _ _ g3)))) (rv_I (by rw [List.length_map]; have := List.length_pos_iff.mpr hkne; omega))) (rv_ixL (sq_of (e7 _ _ (e6 _ _ g3))) (pick_atI hkne _ (by rw [List.length_map])))) ea_nil)) (by simp) H8 e8 _ fun p H9 hp e9 h9 => q _ H9 e9 ⟨p, rfl, st_of h9⟩
    rintro pr H7 hpr e7 ⟨ys, hly, hyl, hyp⟩
    have hnn : (1 + rr % 3) = (((1 + rr % 3).toNat : Nat) : Int) := by omega
    have hnl : (1 + rr % 3).toNat ≤ 3 := by omega
    generalize (1 + rr % 3).toNat = no at hnn hnl
    refine q_asgL (el_mapR (n := no) (ys := ((List.range no).map fun (k : Nat) => opick zs (rr / (7 + (k : Int)))).map V.str) (ea_cons (ev_is (ev_op ev_c (ev_op (ev_var rfl) ev_c (rv_I (by decide))) rv_I0) (by rw [hnn])) ea_nil) (by omega) (by simp) (fun _ => rfl) fun j y H8 e8 hj hy => ?_) fun po H8 hpo e8 hlo => ?_
    · obtain ⟨z, hz, rfl⟩ := map_at hy
      rw [List.getElem?_map, List.getElem?_range hj] at hz
      cases hz
      have g38 := e8 _ _ (e7 _ _ (e6 _ _ g3))
      refine ev_op (ev_var rfl) (ev_op (ev_op (ev_len (ev_var rfl) (sq_of g38)) ev_c rv_I0) (ev_op (ev_op (ev_var rfl) (ev_op ev_c (ev_var rfl) rv_I0) (rv_I ⟨by omega, by omega⟩)) (ev_cb (ea_cons ev_c (ea_cons (ev_len (ev_var rfl) (sq_of g38)) ea_nil)) rc_min2) (rv_I ?_)) rv_I0) (rv_ixL (sq_of g38) ?_)
      · rw [List.length_map]
        have := List.length_pos_iff.mpr hkne
        split <;> omega
      · rw [List.length_map]
        obtain ⟨o1, o2⟩ := opick_ix hkne (rr / (7 + (j : Int)))
        exact atI_int o1 (by rw [List.getElem?_map, getD_at o2]; rfl)
    have e68 := (e6.trans e7).trans e8
    have e08 := e.trans e68
    have last : ∀ (H9 : Hp) (pg2 : Addr) (gts : List GV), Ex H8 H9 → H9 pg2 = some (.lst (gts.map (·.1))) → gs.Perm gts → tRet (tTup (tCons (tVar 3) (tCons (tVar 9) (tCons (tVar 6) (tCons (tVar 10) tNil))))) { nx := fun _ H' => Q .non H', rt := Q } [some (.ref l), some (.int 4), some (.int cell), some (.ref pi), some (.ref pq), some (.ref pk), some (.ref pg2), v7, some (.int rr), some (.ref pr), some (.ref po)] H9 := by
      intro H9 pg2 gts e9 hg9 hpm
      refine s_retU (eu_tup (ea_cons (ev_var rfl) (ea_cons (ev_var rfl) (ea_cons (ev_var rfl) (ea_cons (ev_var rfl) ea_nil)))) (by simp)) fun p H10 hp e10 h10 => k _ H10 ((e08.trans e9).trans e10) ?_
      have e810 := e9.trans e10
      have hrl : ys.length = ((List.range (qN.take nq).length).map fun (j : Nat) => ((qN.take nq).getD j "", pick zs (rr / (3 + (j : Int))))).length := by simp [hyl]
      refine ⟨p, pi, pr, pg2, po, ⟨iN.take ni, ys.zip ((List.range (qN.take nq).length).map fun (j : Nat) => ((qN.take nq).getD j "", pick zs (rr / (3 + (j : Int))))), gts, (List.range no).map fun (k : Nat) => opick zs (rr / (7 + (k : Int)))⟩, rfl, st_of h10, sq_of (e810 _ _ (e68 _ _ g1)), ?_, sq_of (e10 _ _ hg9), sq_of (e810 _ _ hlo), ?_, ?_, ?_⟩
      · show SqL K H10 pr ((ys.zip _).map Prod.fst)
        rw [List.map_fst_zip (by omega)]
        exact sq_of (e810 _ _ (e8 _ _ hly))
      · intro r hr
        obtain ⟨j, hj⟩ := List.mem_iff_getElem?.mp hr
        obtain ⟨h1, h2⟩ := List.getElem?_zip_eq_some.mp hj
        have hjl : j < (qN.take nq).length := by
          have := (List.getElem?_eq_some_iff.mp h1).1
          omega
        have h3 := (hyp j r.1 h1).mono (e8.trans e810)
        rw [List.getElem?_map, List.getElem?_range hjl] at h2
        have h2 := Option.some.inj h2
        rw [← h2]
        exact h3
      · intro g hg
        exact (g6 g (hpm.mem_iff.mpr hg)).mono (e68.trans e810)
      · have hmap : (ys.zip ((List.range (qN.take nq).length).map fun (j : Nat) => ((qN.take nq).getD j "", pick zs (rr / (3 + (j : Int)))))).map (·.2) = (List.range (qN.take nq).length).map fun (j : Nat) => ((qN.take nq).getD j "", pick zs (rr / (3 + (j : Int)))) := List.map_snd_zip (by omega)
        refine pre_of (ni := ni) (nq := nq) (ng := ng) (gs := gs) rfl ?_ hpm g7 g8 g9 hng ?_ ?_ (by simp; omega)
        · show (ys.zip _).map (fun r : V × Str × Str => r.2.1) = _
          have : (fun r : V × Str × Str => r.2.1) = Prod.fst ∘ (fun r : V × Str × Str => r.2) := rfl
          rw [this, ← List.map_map, hmap, List.map_map]
          apply List.ext_getElem?
          intro j
          rw [List.getElem?_map]
          by_cases hj : j < (qN.take nq).length
          · rw [List.getElem?_range hj]
            exact (getD_at hj).symm
          · rw [List.getElem?_eq_none (by rw [List.length_range]; omega), List.getElem?_eq_none (by omega)]
            rfl
        · intro z hz
          rw [hzs]
          obtain ⟨r, hr, rfl⟩ := List.mem_map.mp hz
          have hr2 : r.2 ∈ (List.range (qN.take nq).length).map fun (j : Nat) => ((qN.take nq).getD j "", pick zs (rr / (3 + (j : Int)))) := by
            rw [← hmap]
            exact List.mem_map.mpr ⟨r, hr, rfl⟩
          obtain ⟨j, hj, hjr⟩ := List.mem_map.mp hr2
          rw [← hjr]
          exact pick_mem hkne _
        · intro z hz
          rw [hzs]
          obtain ⟨j, hj, rfl⟩ := List.mem_map.mp hz
          exact opick_mem hkne _
    refine q_when (b := decide (V.int (cell / 84 % 2) = V.int 1)) (et_test (ev_op (ev_op (ev_op (ev_var rfl) ev_c (rv_I ⟨by decide, by decide⟩)) ev_c (rv_I (by decide))) ev_c (rv_eq rfl))) (fun hb H9 e9 => ?_) (fun hb H9 e9 => ?_)
    · refine s_asgL (el_rev (ev_var rfl) (sq_of (e9 _ _ (e68 _ _ g4)))) fun pg2 H10 hpg2 e10 hl10 => ?_
      exact last H10 pg2 gs.reverse (e9.trans e10) (by rw [hl10, List.map_reverse]) (List.reverse_perm gs).symm
    · exact last H9 pg gs e9 (e9 _ _ (e68 _ _ g4)) (List.Perm.refl _)
theorem ok__law_circuit (T : Tx K mg) (F : DefF K mg "_law_circuit" s__law_circuit) (g_Circuit : C8.Mak P w K mg base 4 "Circuit" (He.ga K "Circuit") (sp_Circuit___init__ K) []) (g__law_parts : C8.Cal P w K mg base 2 "_law_parts" (sp__law_parts K) []) : C8.Cal P w K mg base 6 "_law_circuit" (sp__law_circuit K) [] := by
  refine cal_of F sc__law_circuit (fun vs H Q E h => by obtain ⟨_, _, rfl, _⟩ := h; rfl) (fun _ _ _ _ _ _ us hl => match us, hl with | [_, _], _ => rfl) (fun f cdv A outer s H vs Q E hr h => ?_)
  obtain ⟨l, ns, rfl, hx, k⟩ := h
  have hu := hu_of hr
  refine ⟨_, (pss_cons (ps_asg (C8.pe_c g__law_parts hr (by decide) rfl (pa_cons (pv 0) (pa_cons (pv 1) pa_nil))) (pg_tup rfl (pgs_cons (pg_name (i := 2) sc__law_circuit.nd rfl (Or.inl rfl)) (pgs_cons (pg_name (i := 3) sc__law_circuit.nd rfl (Or.inl rfl)) (pgs_cons (pg_name (i := 4) sc__law_circuit.nd rfl (Or.inl rfl)) (pgs_cons (pg_name (i := 5) sc__law_circuit.nd rfl (Or.inl rfl)) pgs_nil))))))
        (pss_one (ps_ret (C8.pe_mk g_Circuit hr (by decide) rfl (pa_cons (pv 2) (pa_cons (pv 3) (pa_cons (pv 4) (pa_cons (pv 5) pa_nil)))))))), ?_⟩
  refine eg_call (R := RetP (fun v H2 => ∃ (p i r g o : Addr) (c : Ck), v = .ref p ∧ SqT K H2 p [.ref i, .ref r, .ref g, .ref o] ∧ SqL K H2 i (c.ins.map V.str) ∧ SqL K H2 r (c.regs.map (·.1)) ∧ SqL K H2 g (c.gts.map (·.1)) ∧ SqL K H2 o (c.outs.map V.str) ∧ (∀ p ∈ c.regs, RegAt K H2 p.1 p.2) ∧ (∀ p ∈ c.gts, GateAt K H2 p.1 p.2) ∧ CkPre c)) (ea_cons (ev_var rfl) (ea_cons (ev_var rfl) ea_nil)) mo_P (fun H1 e Q E q => ⟨l, ns, rfl, ex_l e hx, q⟩) H (Ex.refl H) _ fun v H1 e1 hv => ?_
  obtain ⟨p, i, r, g, o, c, rfl, h1, h2, h3, h4, h5, h6, h7, pre⟩ := hv
  refine ⟨p, [.ref i, .ref r, .ref g, .ref o], rfl, h1, rfl, .ref i, [.ref r, .ref g, .ref o], rfl, .ref r, [.ref g, .ref o], rfl, .ref g, [.ref o], rfl, .ref o, [], rfl, rfl, ?_⟩
  show tRet (tMake (He.ga K "Circuit") (sp_Circuit___init__ K) [] C8.E0 (tCons (tVar 2) (tCons (tVar 3) (tCons (tVar 4) (tCons (tVar 5) tNil))))) { nx := fun _ H' => Q .non H', rt := Q } [some (.ref l), some (.int 4), some (.ref i), some (.ref r), some (.ref g), some (.ref o)] H1
  refine s_retG (R := RetF (fun a H2 => ∃ c od, CkIs K H2 a c od)) (fun H2 e2 Q q => ?_) (mo_F _ _ _ e1 k)
  have hA : EvA (tCons (tVar 2) (tCons (tVar 3) (tCons (tVar 4) (tCons (tVar 5) tNil)))) [some (.ref l), some (.int 4), some (.ref i), some (.ref r), some (.ref g), some (.ref o)] H2 [.ref i, .ref r, .ref g, .ref o] := ea_cons (ev_var rfl) (ea_cons (ev_var rfl) (ea_cons (ev_var rfl) (ea_cons (ev_var rfl) ea_nil)))
  refine hA H2 (Ex.refl _) _ ?_
  intro H3 e3 x dx hx0 hdx hne
  have e23 := e2.trans e3
  have eu : Ex H3 (upd (upd H3 dx (.own x)) x (.ins (He.ga K "Circuit") dx [])) := Ex.mut (Ex.new hdx) hx0
  have e14 := e23.trans eu
  refine ⟨x, i, r, g, o, c, rfl, ⟨dx, upd_same⟩, ex_l e14 h2, ex_l e14 h3, ex_l e14 h4, ex_l e14 h5, fun p hp => (h6 p hp).mono e14, fun p hp => (h7 p hp).mono e14, pre.few, pre.forms, pre.names, pre.topo, fun H' eo hq => ⟨rfl, ?_⟩⟩
  obtain ⟨od, hck, hok⟩ := hq
  refine q x H' (fresh_back e3 hx0) (fun u w hu => eo u w (ne_of_none (e3 _ _ hu) hx0) (eu _ _ (e3 _ _ hu))) ⟨c, od, ⟨hck, hok⟩, pre.some⟩
theorem lines_ne {c : Ck} (h : c.gts ≠ []) : c.lines ≠ [] := by
  intro n
  rw [Ck.lines, List.append_eq_nil_iff, List.map_eq_nil_iff] at n
  exact h n.2
theorem bit2 (r : Int) : bitB (r % 2) = true := by
  have h1 := Int.emod_nonneg r (b := 2) (by decide)
  have h2 := Int.emod_lt_of_pos r (b := 2) (by decide)
  rw [bitB, Bool.and_eq_true, decide_eq_true_eq, decide_eq_true_eq]
  omega
theorem ok__law_version (T : Tx K mg) (F : DefF K mg "_law_version" s__law_version) (g_Circuit_lines : C8.Met P w K mg base 2 (He.ga K "Circuit") "lines" (sp_Circuit_lines K) []) (g_shorts : C8.Cal P w K mg base 3 "shorts" (sp_shorts K) []) : C8.Cal P w K mg base 4 "_law_version" (sp__law_version K) [] := by
  refine cal_of F sc__law_version (fun vs H Q E h => by obtain ⟨_, _, _, _, rfl, _⟩ := h; rfl) (fun _ _ _ _ _ _ us hl => match us, hl with | [_, _], _ => rfl) (fun f cdv A outer s H vs Q E hr h => ?_)
  obtain ⟨a, r, c, od, rfl, ⟨hc, hgn⟩, k⟩ := h
  have hu := hu_of hr
  refine ⟨_, (pss_cons (ps_set (i := 2) sc__law_version.nd rfl (Or.inl rfl) (C8.pe_mt0 g_Circuit_lines hr (by decide) (pv 0)))
        (pss_cons (ps_set (i := 3) sc__law_version.nd rfl (Or.inl rfl) (pe_op op_mod (pv 1) pe_int))
        (pss_cons (ps_set (i := 4) sc__law_version.nd rfl (Or.inl rfl) (pe_op op_fdiv (pv 1) pe_int))
        (pss_cons (ps_if (pt_cmpR op_eq (pv 3) pe_int (nomark _))
          (pss_one (ps_ret pe_non))
          pss_nil)
        (pss_cons (ps_if (pt_cmpR op_lt (pv 3) pe_int (nomark _))
          (pss_one (ps_ret (pe_tup (pa_cons pe_str (pa_cons (pe_ix ix_list (pv 2) (pe_op op_mod (pv 4) (pe_callB call_len_seq (by rfl) T.n_len PySem.boot_len (pa_cons (pv 2) pa_nil))) (fun _ _ => rfl)) (pa_cons (pe_op op_mod (pe_op op_fdiv (pv 4) (pe_callB call_len_seq (by rfl) T.n_len PySem.boot_len (pa_cons (pv 2) pa_nil))) pe_int) pa_nil))))))
          pss_nil)
        (pss_cons (ps_if (pt_cmpR op_lt (pv 3) pe_int (nomark _))
          (pss_cons (ps_set (i := 5) sc__law_version.nd rfl (Or.inl rfl) (pe_ix ix_tup (pe_fld (pv 0) rfl) (pe_op op_mod (pv 4) (pe_callB call_len_seq (by rfl) T.n_len PySem.boot_len (pa_cons (pe_fld (pv 0) rfl) pa_nil))) (fun _ _ => rfl)))
            (pss_cons (ps_if (pt_cmpR op_gt (pe_callB call_len_seq (by rfl) T.n_len PySem.boot_len (pa_cons (pe_ix ix_tup (pv 5) pe_int (fun _ _ => rfl)) pa_nil)) pe_int (nomark _))
              (pss_one (ps_ret (pe_tup (pa_cons pe_str (pa_cons (pe_ix ix_tup (pv 5) pe_int (fun _ _ => rfl)) (pa_cons (pe_op op_mod (pe_op op_fdiv (pv 4) pe_int) (pe_callB call_len_seq (by rfl) T.n_len PySem.boot_len (pa_cons (pe_ix ix_tup (pv 5) pe_int (fun _ _ => rfl)) pa_nil))) (pa_cons (pe_op op_mod (pe_op op_fdiv (pv 4) pe_int) pe_int) pa_nil)))))))
              pss_nil)
            (pss_one (ps_ret (pe_tup (pa_cons pe_str (pa_cons (pe_ix ix_tup (pv 5) pe_int (fun _ _ => rfl)) (pa_cons (pe_op op_mod (pe_op op_fdiv (pv 4) pe_int) pe_int) pa_nil))))))))
          pss_nil)
        (pss_cons (ps_set (i := 6) sc__law_version.nd rfl (Or.inl rfl) (C8.pe_c g_shorts hr (by decide) rfl (pa_cons (pv 0) pa_nil)))
        (pss_one (ps_ret (pe_ifExp (pt_cmpR op_gt (pe_callB call_len_seq (by rfl) T.n_len PySem.boot_len (pa_cons (pv 6) pa_nil)) pe_int (nomark _)) (pe_ix ix_list (pv 6) (pe_op op_mod (pv 4) (pe_callB call_len_seq (by rfl) T.n_len PySem.boot_len (pa_cons (pv 6) pa_nil))) (fun _ _ => rfl)) pe_non)))))))))), ?_⟩
  obtain ⟨dx, fs, ti, tr, tg, to, hp⟩ := id hc.at_.parts
  have hln := hc.ok.names.ln
  have hne := lines_ne hgn
  have hl0 := List.length_pos_iff.mpr hne
  have hg0 := List.length_pos_iff.mpr hgn
  refine q_asgL (eg_lines (ev_var rfl) hc.at_.parts) fun pl H1 hpl e1 hll => ?_
  refine q_asg (ev_op (ev_var rfl) ev_c (rv_I (by decide))) fun H2 e2 => ?_
  refine q_asg (ev_op (ev_var rfl) ev_c (rv_I ⟨by decide, by decide⟩)) fun H3 e3 => ?_
  generalize r / 6 = rest
  have e13 := (e1.trans e2).trans e3
  have hl3 := e3 _ _ (e2 _ _ hll)
  refine q_when (b := decide (V.int (r % 6) = V.int 0)) (et_test (ev_op (ev_var rfl) ev_c (rv_eq rfl))) (fun hb H4 e4 => s_ret ev_c fun H5 e5 => k _ H5 ((e13.trans e4).trans e5) ⟨.non, .inl ⟨rfl, rfl⟩, trivial⟩) (fun hb H4 e4 => ?_)
  have e14 := e13.trans e4
  refine q_when (b := decide (r % 6 < 3)) (et_test (ev_op (ev_var rfl) ev_c rv_I0)) (fun hb H5 e5 => ?_) (fun hb H5 e5 => ?_)
  · have hl5 := e5 _ _ (e4 _ _ hl3)
    refine s_retU (eu_tup (ea_cons ev_c (ea_cons (ev_op (ev_var rfl) (ev_op (ev_var rfl) (ev_len (ev_var rfl) (sq_of hl5)) (rv_I (by rw [List.length_map]; omega))) (rv_ixL (sq_of hl5) (pick_atI hne rest (by rw [List.length_map])))) (ea_cons (ev_op (ev_op (ev_var rfl) (ev_len (ev_var rfl) (sq_of hl5)) (rv_I ⟨by rw [List.length_map]; omega, by rw [List.length_map]; omega⟩)) ev_c (rv_I (by decide))) ea_nil))) (by simp)) fun p H6 hp6 e6 h6 => k _ H6 ((e14.trans e5).trans e6) ⟨.stem (pick c.lines rest) (rest / ((c.lines.map V.str).length : Int) % 2), .inr ⟨(fun q => by cases q), p, rfl, st_of h6⟩, pick_mem hne _, bit2 _⟩
  · have e15 := e14.trans e5
    refine q_when (b := decide (r % 6 < 5)) (et_test (ev_op (ev_var rfl) ev_c rv_I0)) (fun hb H6 e6 => ?_) (fun hb H6 e6 => ?_)
    · have e16 := e15.trans e6
      have hp6 := hp.mono e16
      have hix := mod_lt' (r := rest) hg0
      obtain ⟨g, hg⟩ : ∃ g, c.gts[(rest % (c.gts.length : Int)).toNat]? = some g := ⟨_, List.getElem?_eq_getElem hix.2⟩
      have hgm := List.mem_of_getElem? hg
      obtain ⟨b, q, g1, g2, g3⟩ := hp6.dg g hgm
      have hpl4 := hp.few.pins g hgm
      have fld := fun (σ : L2.St) (h0 : σ[0]? = some (some (V.ref a))) => ev_fld (K := K) (σ := σ) (ev_var h0) hp6.ob T.clCircuit T.na_gates hp6.lg
      refine q_asg (v := .ref b) (ev_op (fld _ rfl) (ev_op (ev_var rfl) (ev_lenT (fld _ rfl) hp6.sg) (rv_I (by rw [List.length_map]; omega))) (rv_ixT hp6.sg (by rw [List.length_map]; exact atI_int hix.1 (by rw [List.getElem?_map, hg, ← g1]; rfl)))) fun H7 e7 => ?_
      have e17 := e16.trans e7
      have s2 := ex_t e7 g2
      have s3 := ex_t e7 g3
      refine q_when (b := decide (0 < g.2.pins.length)) (et_test (ev_is (ev_op (ev_lenT (ev_op (ev_var rfl) ev_c (rv_ixT s2 rfl)) s3) ev_c rv_I0) ?_)) (fun hb H8 e8 => ?_) (fun hb H8 e8 => ?_)
      · rw [List.length_map]
        congr 1
        rw [Bool.eq_iff_iff]
        simp
      · have hb := of_decide_eq_true hb
        have t2 := ex_t e8 s2
        have t3 := ex_t e8 s3
        have hj := mod_lt' (r := rest / 9) hb
        refine s_retU (eu_tup (ea_cons ev_c (ea_cons (ev_op (ev_var rfl) ev_c (rv_ixT t2 rfl)) (ea_cons (ev_op (ev_op (ev_var rfl) ev_c (rv_I ⟨by decide, by decide⟩)) (ev_lenT (ev_op (ev_var rfl) ev_c (rv_ixT t2 rfl)) t3) (rv_I (by rw [List.length_map]; omega))) (ea_cons (ev_op (ev_op (ev_var rfl) ev_c (rv_I ⟨by decide, by decide⟩)) ev_c (rv_I (by decide))) ea_nil)))) (by simp)) fun p H9 hp9 e9 h9 => k _ H9 ((e17.trans e8).trans e9) ⟨.pin g.2.nm (rest / 9 % (g.2.pins.length : Int)).toNat (rest / 36 % 2), .inr ⟨(fun q => by cases q), p, rfl, st_of ?_⟩, ⟨g, hgm, rfl, hj.2⟩, bit2 _⟩
        rw [h9, Ver.vs, Int.toNat_of_nonneg hj.1, List.length_map]
      · have t2 := ex_t e8 s2
        refine s_retU (eu_tup (ea_cons ev_c (ea_cons (ev_op (ev_var rfl) ev_c (rv_ixT t2 rfl)) (ea_cons (ev_op (ev_op (ev_var rfl) ev_c (rv_I ⟨by decide, by decide⟩)) ev_c (rv_I (by decide))) ea_nil))) (by simp)) fun p H9 hp9 e9 h9 => k _ H9 ((e17.trans e8).trans e9) ⟨.stem g.2.nm (rest / 36 % 2), .inr ⟨(fun q => by cases q), p, rfl, st_of h9⟩, ?_, bit2 _⟩
        rw [Ck.lines]
        exact List.mem_append_right _ (List.mem_map.mpr ⟨g, hgm, rfl⟩)
    · have e16 := e15.trans e6
      refine q_asgG (R := RetF (fun p H2 => ∃ xs : List V, H2 p = some (.lst xs) ∧ xs.length ≤ 8000 ∧ VersIn K H2 c od xs)) (eg_call (ea_cons (ev_var rfl) ea_nil) mo_F fun H7 e7 Q E q => ⟨a, c, od, rfl, hc.mono (e16.trans e7), q⟩) ?_
      rintro pf H7 hpf e7 ⟨xs, hxs, hxl, hxv⟩
      have e17 := e16.trans e7
      by_cases h0 : 0 < xs.length
      · have hix := mod_lt' (r := rest) h0
        obtain ⟨x, hx⟩ : ∃ x, xs[(rest % (xs.length : Int)).toNat]? = some x := ⟨_, List.getElem?_eq_getElem hix.2⟩
        obtain ⟨ver, hv, ho⟩ := hxv x (List.mem_of_getElem? hx)
        exact s_ret (v := x) (ev_if (b := true) (et_test (ev_is (ev_op (ev_len (ev_var rfl) (sq_of hxs)) ev_c rv_I0) (by congr 1; rw [decide_eq_true_eq]; omega))) (fun _ => ev_op (ev_var rfl) (ev_op (ev_var rfl) (ev_len (ev_var rfl) (sq_of hxs)) (rv_I (by omega))) (rv_ixL (sq_of hxs) (atI_int hix.1 hx))) fun q => nomatch q) fun H8 e8 => k _ H8 (e17.trans e8) ⟨ver, hv.mono e8, ho⟩
      · exact s_ret (v := .non) (ev_if (b := false) (et_test (ev_is (ev_op (ev_len (ev_var rfl) (sq_of hxs)) ev_c rv_I0) (by congr 1; rw [decide_eq_false_iff_not]; omega))) (fun q => nomatch q) fun _ => ev_c) fun H8 e8 => k _ H8 (e17.trans e8) ⟨.non, .inl ⟨rfl, rfl⟩, trivial⟩
theorem ok__law_refused (T : Tx K mg) (F : DefF K mg "_law_refused" s__law_refused) (g_words_of : CalX P w K mg base 6 "words_of" (sp_words_of K)) : C8.Cal P w K mg base 7 "_law_refused" (sp__law_refused K) [] := by
  refine cal_of F sc__law_refused (fun vs H Q E h => by obtain ⟨_, _, _, _, _, _, rfl, _⟩ := h; rfl) (fun _ _ _ _ _ _ us hl => match us, hl with | [_, _], _ => rfl) (fun f cdv A outer s H vs Q E hr h => ?_)
  obtain ⟨a, l, c, od, ps, b, rfl, hc, hps, hb, k⟩ := h
  have hu := hu_of hr
  refine ⟨_, (pss_cons (ps_try_only (c := BadP K) (Wout := fun _ _ _ _ => False) rfl rfl ⟨rfl, by decide, Or.inl T.bMg⟩ takes0 (fun W pn xe tk _ => (pss_one (ps_expr (pe_cxS g_words_of hr (by decide) rfl (fun σ => passAt tk σ) (pa_cons (pv 0) (pa_cons pe_non (pa_cons (pv 1) pa_nil))))))) (fun _ _ _ _ _ _ _ => (pss_one (ps_ret pe_bl))))
        (pss_one (ps_ret pe_bl))), ?_⟩
  show tDrop (tCallS (sp_words_of K) _ (tCons (tVar 0) (tCons (tC .non) (tCons (tVar 1) tNil)))) _ _ _
  refine s_dropS (ea_cons (ev_var rfl) (ea_cons ev_c (ea_cons (ev_var rfl) ea_nil))) fun H1 e1 => ?_
  refine ⟨a, .non, l, c, od, .non, ps, rfl, hc.mono e1, .inl ⟨rfl, rfl⟩, trivial, hps.mono e1, ?_⟩
  rcases hb with ⟨rfl, hg⟩ | ⟨rfl, gs, x, rfl, hg, hbad, hbl⟩
  · exact .inl ⟨hg, fun p H2 hp e2 _ => (show tRet (tC (V.bl false)) { nx := fun _ H' => Q .non H', rt := Q } [some (.ref a), some (.ref l)] H2 from s_ret ev_c fun H3 e3 => k H3 ((e1.trans e2).trans e3))⟩
  · exact .inr ⟨gs, x, rfl, hg, hbad, hbl, fun H2 e2 => ⟨true, T.bEx, fun _ a' ha' => s_ret ev_c fun H3 e3 => k H3 ((e1.trans e2).trans e3), fun q => nomatch q⟩⟩
end
end Pw


namespace Pw
open PySem PySem.Spec PyProof.Rows L2 Evl
/-! ### the plain law -/
def fS (ps : List PV) (n : Nat) : List BF := (List.range n).map fun j => fun k => decide (((ps.map (·.2)).getD k []).getD j 0 = 1)
theorem ps_at {ps : List PV} {k : Nat} {p : PV} (h : ps[k]? = some p) : (ps.map (·.2)).getD k [] = p.2 := by
  rw [List.getD_eq_getElem?_getD, List.getElem?_map, h]
  rfl
theorem good_bit {n : Nat} {bs : List Int} (h : Good n bs) {j : Nat} (hj : j < n) : bitB (bs.getD j 0) = true := by
  have := getD_at (l := bs) (j := j) (d := 0) (by rw [h.1]; exact hj)
  exact List.all_eq_true.mp h.2 _ (List.mem_of_getElem? this)
theorem colW_wd {ps : List PV} {n : Nat} (hg : ∀ p ∈ ps, Good n p.2) : colW ps n = (fS ps n).map (wd ps.length) := by
  rw [colW, fS, List.map_map]
  refine List.map_congr_left fun j hj => ?_
  have hj := List.mem_range.mp hj
  show wordO _ = wd ps.length fun k => _
  rw [wordO_wd ps.length _ (by simp)]
  · refine wd_congr fun k hk => ?_
    obtain ⟨p, hp⟩ : ∃ p, ps[k]? = some p := ⟨_, List.getElem?_eq_getElem hk⟩
    rw [ps_at hp, List.getD_eq_getElem?_getD, List.getElem?_map, hp]
    rfl
  · intro b hb
    obtain ⟨p, hp, rfl⟩ := List.mem_map.mp hb
    exact good_bit (hg p hp) hj
theorem bits_im {ps : List PV} {n k : Nat} {p : PV} (hg : Good n p.2) (hp : ps[k]? = some p) : p.2 = (fS ps n).map fun f => bI (f k) := by
  rw [fS, List.map_map]
  apply List.ext_getElem?
  intro j
  rw [List.getElem?_map]
  by_cases hj : j < n
  · rw [List.getElem?_range hj, getD_at (l := p.2) (j := j) (d := 0) (by rw [hg.1]; exact hj)]
    show some (p.2.getD j 0) = some (bI (decide (((ps.map (·.2)).getD k []).getD j 0 = 1)))
    rw [ps_at hp]
    rcases bitB_cases (good_bit hg hj) with h | h <;> rw [h] <;> rfl
  · rw [List.getElem?_eq_none (by rw [hg.1]; omega), List.getElem?_eq_none (by rw [List.length_range]; omega)]
    rfl
theorem ok_vbit {c : Ck} {od : List GV} {ver : Ver} (h : ver.Ok c od) : VBit ver := by
  cases ver with
  | non => trivial
  | stem z b => exact h.2
  | pin z i b => exact h.2
  | short x y k => trivial
theorem od_allowed {c : Ck} {od : List GV} (h : CkOk c od) : ∀ g ∈ od, Allowed g.2.kd g.2.pins.length := fun g hg => (h.forms.gt g (h.perm.mem_iff.mp hg)).2.2
def FK (ver : Ver) (c : Ck) (od : List GV) (ps : List PV) : KF := wholeF ver c.srcs od (fS ps c.srcs.length)
section
variable {c : Ck} {od : List GV} {ver ver2 : Ver} {ps : List PV}
theorem words_im (h : CkOk c od) (ok : ver.Ok c od) (hg : ∀ p ∈ ps, Good c.srcs.length p.2) : wordsV ver c od ps = im (wd ps.length) (FK ver c od ps) := by
  rw [wordsV, colW_wd hg]
  exact (homW ps.length).whole (ok_vbit ok) _ _ _ (od_allowed h)
theorem values_im (h : CkOk c od) (ok : ver.Ok c od) {k : Nat} {p : PV} (hg : Good c.srcs.length p.2) (hp : ps[k]? = some p) : whole gval id jnB ver c.srcs od p.2 = im (fun f => bI (f k)) (FK ver c od ps) := by
  rw [bits_im hg hp]
  exact (homB k).whole (ok_vbit ok) _ _ _ (od_allowed h)
theorem words_lk (h : CkOk c od) (ok : ver.Ok c od) (hg : ∀ p ∈ ps, Good c.srcs.length p.2) (z : Str) : lk (wordsV ver c od ps) z = wd ps.length (lkF (FK ver c od ps) z) := by
  rw [words_im h ok hg]
  exact im_lk _ (wd_false _) _ _
theorem values_lk (h : CkOk c od) (ok : ver.Ok c od) {k : Nat} {p : PV} (hg : Good c.srcs.length p.2) (hp : ps[k]? = some p) (z : Str) : lk (whole gval id jnB ver c.srcs od p.2) z = bI (lkF (FK ver c od ps) z k) := by
  rw [values_im h ok hg hp]
  exact im_lk (fun f => bI (f k)) rfl _ _
def respV (ver : Ver) (c : Ck) (od : List GV) (p : PV) : List Int := c.sinks.map fun z => lk (whole gval id jnB ver c.srcs od p.2) z
theorem rows_eq (h : CkOk c od) (ok : ver.Ok c od) (hg : ∀ p ∈ ps, Good c.srcs.length p.2) {k : Nat} {p : PV} (hp : ps[k]? = some p) : rowAt (wordsV ver c od ps) c.sinks k = respV ver c od p := by
  rw [rowAt, respV]
  refine List.map_congr_left fun z _ => ?_
  have hk := (List.getElem?_eq_some_iff.mp hp).1
  rw [words_lk h ok hg, wd_bit _ hk, values_lk h ok (hg p (List.mem_of_getElem? hp)) hp]
theorem part_fold (n : Nat) (A B : KF) : ∀ (zs : List Str) (f : BF), zs.foldl (fun w z => Builtin.bitOr w (Builtin.bitXor (lk (im (wd n) A) z) (lk (im (wd n) B) z))) (wd n f) = wd n fun k => f k || zs.any fun z => lkF A z k ^^ lkF B z k
  | [], f => by
    show wd n f = _
    congr 1
    funext k
    simp
  | z :: zs, f => by
    rw [List.foldl_cons, im_lk _ (wd_false n), im_lk _ (wd_false n), wd_xor, wd_or, part_fold n A B zs]
    congr 1
    funext k
    rw [List.any_cons, Bool.or_assoc]
theorem part_wd (h : CkOk c od) (ok : ver.Ok c od) (ok2 : ver2.Ok c od) (hg : ∀ p ∈ ps, Good c.srcs.length p.2) : partW (wordsV ver c od ps) (wordsV ver2 c od ps) c.sinks = wd ps.length fun k => c.sinks.any fun z => lkF (FK ver c od ps) z k ^^ lkF (FK ver2 c od ps) z k := by
  rw [partW, words_im h ok hg, words_im h ok2 hg]
  have := part_fold ps.length (FK ver c od ps) (FK ver2 c od ps) c.sinks fF
  rw [show wd ps.length fF = 0 from wd_false _] at this
  rw [this]
  congr 1
theorem bI_inj {a b : Bool} : bI a = bI b ↔ a = b := by
  cases a <;> cases b <;> decide
theorem part_eq (h : CkOk c od) (ok : ver.Ok c od) (ok2 : ver2.Ok c od) (hg : ∀ p ∈ ps, Good c.srcs.length p.2) {k : Nat} {p : PV} (hp : ps[k]? = some p) :
    decide (Builtin.bitAnd (partW (wordsV ver c od ps) (wordsV ver2 c od ps) c.sinks / 2 ^ k) 1 = 1) = decide (respV ver2 c od p ≠ respV ver c od p) := by
  have hk := (List.getElem?_eq_some_iff.mp hp).1
  have hgp := hg p (List.mem_of_getElem? hp)
  rw [part_wd h ok ok2 hg, wd_bit _ hk, Bool.eq_iff_iff, decide_eq_true_eq, decide_eq_true_eq]
  have e1 : (bI (c.sinks.any fun z => lkF (FK ver c od ps) z k ^^ lkF (FK ver2 c od ps) z k) = 1) ↔ (c.sinks.any fun z => lkF (FK ver c od ps) z k ^^ lkF (FK ver2 c od ps) z k) = true := by
    cases (c.sinks.any fun z => lkF (FK ver c od ps) z k ^^ lkF (FK ver2 c od ps) z k) <;> decide
  rw [e1, List.any_eq_true, respV, respV]
  constructor
  · rintro ⟨z, hz, hx⟩ q
    have := List.map_inj_left.mp q z hz
    rw [values_lk h ok2 hgp hp, values_lk h ok hgp hp, bI_inj] at this
    rw [this] at hx
    simp at hx
  · intro hne
    refine Classical.byContradiction fun hno => hne (List.map_congr_left fun z hz => ?_)
    rw [values_lk h ok2 hgp hp, values_lk h ok hgp hp, bI_inj]
    have : ¬ (lkF (FK ver c od ps) z k ^^ lkF (FK ver2 c od ps) z k) = true := fun q => hno ⟨z, hz, q⟩
    cases h1 : lkF (FK ver c od ps) z k <;> cases h2 : lkF (FK ver2 c od ps) z k <;> rw [h1, h2] at this <;> simp at this ⊢
end
theorem given_congr {n : Nat} {f g : Nat → Bool} {v : Nat → V} (h : ∀ i, i < n → f i = g i) : given n f v = given n g v := by
  unfold given
  rw [List.filter_congr fun i hi => h i (List.mem_range.mp hi)]
theorem given_none {n : Nat} {v : Nat → V} : given n (fun _ => false) v = [] := by
  unfold given
  simp
/-! == of data -/
theorem eqvAll_ints : ∀ as bs : List Int, PyData.eqvAll (as.map PyData.int) (bs.map PyData.int) = decide (as = bs)
  | [], [] => rfl
  | [], _ :: _ => rfl
  | _ :: _, [] => rfl
  | a :: as, b :: bs => by
    rw [List.map_cons, List.map_cons, PyData.eqvAll, eqvAll_ints as bs]
    show ((a == b) && decide (as = bs)) = decide (a :: as = b :: bs)
    rw [Bool.eq_iff_iff]
    simp
theorem eqv_tup (as bs : List Int) : PyData.eqv (.tuple (as.map PyData.int)) (.tuple (bs.map PyData.int)) = decide (as = bs) := by
  rw [PyData.eqv]
  exact eqvAll_ints as bs
theorem eqv_list (as bs : List Int) : PyData.eqv (.list (as.map PyData.int)) (.list (bs.map PyData.int)) = decide (as = bs) := by
  rw [PyData.eqv]
  exact eqvAll_ints as bs
theorem eqvAll_rows : ∀ rs : List (List Int), PyData.eqvAll (rs.map fun r => .tuple (r.map PyData.int)) (rs.map fun r => .tuple (r.map PyData.int)) = true
  | [] => rfl
  | r :: rs => by
    rw [List.map_cons, PyData.eqvAll, eqvAll_rows rs, eqv_tup]
    simp
theorem eqv_rows (rs : List (List Int)) : PyData.eqv (.list (rs.map fun r => .tuple (r.map PyData.int))) (.list (rs.map fun r => .tuple (r.map PyData.int))) = true := by
  rw [PyData.eqv]
  exact eqvAll_rows rs
theorem eqvAll_strs : ∀ zs : List Str, PyData.eqvAll (zs.map PyData.str) (zs.map PyData.str) = true
  | [] => rfl
  | z :: zs => by
    rw [List.map_cons, PyData.eqvAll, eqvAll_strs zs]
    show ((z == z) && true) = true
    simp
theorem eqv_strs (zs : List Str) : PyData.eqv (.list (zs.map PyData.str)) (.list (zs.map PyData.str)) = true := by
  rw [PyData.eqv]
  exact eqvAll_strs zs
theorem sh_ints (n : Nat) (as : List Int) : Sh (n + 1) (.tuple (as.map PyData.int)) := sh_tup fun d hd => by
  obtain ⟨i, _, rfl⟩ := List.mem_map.mp hd
  exact sh_int i
theorem sh_lints (n : Nat) (as : List Int) : Sh (n + 1) (.list (as.map PyData.int)) := sh_list fun d hd => by
  obtain ⟨i, _, rfl⟩ := List.mem_map.mp hd
  exact sh_int i
theorem sh_rows (n : Nat) (rs : List (List Int)) : Sh (n + 2) (.list (rs.map fun r => .tuple (r.map PyData.int))) := sh_list fun d hd => by
  obtain ⟨r, _, rfl⟩ := List.mem_map.mp hd
  exact sh_ints n r
theorem sh_strs (n : Nat) {zs : List Str} (h : ∀ z ∈ zs, z ∈ U) : Sh (n + 1) (.list (zs.map PyData.str)) := sh_list fun d hd => by
  obtain ⟨z, hz, rfl⟩ := List.mem_map.mp hd
  exact sh_str (U_str z (h z hz))
theorem dp_ints {K : PySem.W.Frag} {H : Hp} (as : List Int) : DpAll K H (as.map V.int) (as.map PyData.int) := dpAll_of fun i _ => .int i
theorem pat_dp {K : PySem.W.Frag} {H : Hp} {v : V} {bs : List Int} (h : PatAt K H v bs) : Dp K H v (.tuple (bs.map PyData.int)) := by
  obtain ⟨p, rfl, h⟩ := h
  exact .tup h (dp_ints bs)
theorem dpAll_at {K : PySem.W.Frag} {H : Hp} : ∀ {vs : List V} {ds : List PyData}, vs.length = ds.length → (∀ (i : Nat) v d, vs[i]? = some v → ds[i]? = some d → Dp K H v d) → DpAll K H vs ds
  | [], [], _, _ => .nil
  | [], _ :: _, h, _ => by simp at h
  | _ :: _, [], h, _ => by simp at h
  | v :: vs, d :: ds, h, k => .cons (k 0 v d rfl rfl) (dpAll_at (by simpa using h) fun i w e hw he => k (i + 1) w e hw he)
theorem sorted_eq {ys zs : List Str} (h : ys.Perm zs) (hu : ∀ z ∈ ys, z ∈ U) (nd : ys.Nodup) (s1 : sortedS ys = true) (s2 : sortedS zs = true) : ys = zs := by
  have p1 := sorted_pw hu nd s1
  have p2 := sorted_pw (ys := zs) (fun z hz => hu z (h.mem_iff.mpr hz)) (h.nodup_iff.mp nd) s2
  exact List.Perm.eq_of_pairwise (fun a b _ _ h1 h2 => absurd h2 (List.lt_asymm h1)) p1 p2 h
end Pw

namespace Pw
open PySem PySem.Spec PyProof.Rows L2 Evl
/-! ### the law -/
def sp_law (K : PySem.W.Frag) : Sp := fun vs H Q _ => ∃ (l : Addr) (ns : List Int), vs = [.ref l] ∧ SqL K H l (ns.map V.int) ∧ RetV (.bl true) H Q
section
variable {K : PySem.W.Frag} {σ : L2.St} {H H' : Hp} {ta tb td tl t1 t2 t3 : TE} {r : R2} {x y z : V} {sp : Sp} {E : XK} {R : Hp → VK → Prop}
theorem eg_sortD {d : Addr} {kvs : List (Key × V)} {ks : List Str} (h : Ev td σ H (.ref d)) (hd : H d = some (.dK kvs)) (hk : kvs.map (·.1) = ks.map Sum.inr) (hl : ks.length < 64) :
    EvG (tCB (fun xs H Q => ∃ (a : Addr) (kvs : List (Key × V)) (ks : List Str), xs = [.ref a] ∧ Rd H a (.dK kvs) ∧ kvs.map (·.1) = ks.map Sum.inr ∧ ks.length < 64 ∧
      ∀ ys p, ys.Perm ks → sortedS ys = true → H p = none → Q (.ref p) (upd H p (.lst (ys.map V.str)))) (tCons td tNil)) σ H (RetF fun p H2 => ∃ ys : List Str, ys.Perm ks ∧ sortedS ys = true ∧ H2 p = some (.lst (ys.map V.str))) := fun H1 e Q q =>
  h H1 e _ fun H2 e2 => ⟨d, kvs, ks, rfl, .inl (e2 _ _ (e _ _ hd)), hk, hl, fun ys p h1 h2 h3 => q p _ (fresh_back e2 h3) (e2.trans (Ex.new h3)) ⟨ys, h1, h2, upd_same⟩⟩
theorem eg_sortS {zs : List Str} (h : EvL tl σ H (zs.map V.str)) (hl : zs.length < 64) : EvG (tCB (rSortedS K) (tCons tl tNil)) σ H (RetF fun p H2 => ∃ ys : List Str, ys.Perm zs ∧ sortedS ys = true ∧ H2 p = some (.lst (ys.map V.str))) := fun H1 e Q q =>
  h H1 e _ fun a H2 ha e2 hx => ⟨a, zs, rfl, sq_of hx, hl, fun ys p h1 h2 h3 => q p _ (fresh_back e2 h3) (e2.trans (Ex.new h3)) ⟨ys, h1, h2, upd_same⟩⟩
theorem ev_opFF {P P2 : Addr → Hp → Prop} (ha : EvG ta σ H (RetF P)) (hb : EvG tb σ H (RetF P2)) (hr : ∀ p q H1 H2, Ex H H1 → P p H1 → Ex H1 H2 → P2 q H2 → RV r (.ref p) (.ref q) H2 z) : Ev (tOp r ta tb) σ H z := fun H1 e Q k =>
  ha H1 e _ fun p H2 hp e2 hP => hb H2 (e.trans e2) _ fun q H3 hq e3 hP2 => hr p q H2 H3 (e.trans e2) hP e3 hP2 H3 (Ex.refl H3) Q fun H4 e4 => k H4 ((e2.trans e3).trans e4)
theorem ev_opFV {P : Addr → Hp → Prop} (ha : EvG ta σ H (RetF P)) (hb : Ev tb σ H y) (hr : ∀ p H1 H2, Ex H H1 → P p H1 → Ex H1 H2 → RV r (.ref p) y H2 z) : Ev (tOp r ta tb) σ H z := fun H1 e Q k =>
  ha H1 e _ fun p H2 hp e2 hP => hb H2 (e.trans e2) _ fun H3 e3 => hr p H2 H3 (e.trans e2) hP e3 H3 (Ex.refl H3) Q fun H4 e4 => k H4 ((e2.trans e3).trans e4)
theorem eg_call2F {P : Addr → Hp → Prop} (h1 : Ev t1 σ H x) (h2 : EvG t2 σ H (RetF P)) (mo : Mo R) (hs : ∀ p H1, Ex H H1 → P p H1 → ∀ Q E, R H1 Q → sp [x, .ref p] H1 Q E) : EvG (tCall sp [] E (tCons t1 (tCons t2 tNil))) σ H R := fun H1 e Q q =>
  h1 H1 e _ fun H2 e2 => h2 H2 (e.trans e2) _ fun p H3 hp e3 hP => hs p H3 ((e.trans e2).trans e3) hP _ _ (mo _ _ _ (e2.trans e3) q)
theorem el_rep {i k : Int} (hk : Ev t2 σ H (.int k)) (h0 : 0 ≤ k ∧ k ≤ 1000) : EvL (tOp rRep (tLst (tCons (tC (.int i)) tNil)) t2) σ H ((List.replicate k.toNat i).map V.int) := fun H1 e Q q =>
  el_lst (σ := σ) (H := H) (ea_cons (ev_c (v := .int i)) ea_nil) (by simp) H1 e _ fun p H2 hp e2 hl => hk H2 (e.trans e2) _ fun H3 e3 => ⟨p, k, [.int i], rfl, rfl, e3 _ _ hl, by omega, by omega, sz_of (by simp; omega), fun q2 hq2 => q q2 _ (fresh_back (e2.trans e3) hq2) ((e2.trans e3).trans (Ex.new hq2)) (by
    rw [upd_same]
    congr 2
    rw [List.map_replicate]
    generalize k.toNat = n
    induction n with
    | zero => rfl
    | succ n ih => rw [List.replicate_succ, List.flatten_cons, ih, List.replicate_succ]; rfl)⟩
/-- xs + [a new tuple] -/
theorem eg_catU {a : Addr} {xs ys : List V} (ha : Ev ta σ H (.ref a)) (hx : H a = some (.lst xs)) (hb : EvU tb σ H ys) (hl : xs.length ≤ 50000) : EvG (tOp rCat ta (tLst (tCons tb tNil))) σ H (RetF fun p H2 => ∃ b, H2 p = some (.lst (xs ++ [.ref b])) ∧ H2 b = some (.tup ys)) := fun H1 e Q q =>
  ha H1 e _ fun H2 e2 => hb H2 (e.trans e2) _ fun b H3 hb3 e3 hy => ⟨sz_of (by simp), fun l hl' => by
    have e4 : Ex H3 (upd H3 l (.lst [.ref b])) := Ex.new hl'
    refine ⟨a, l, xs, [.ref b], rfl, rfl, e4 _ _ (e3 _ _ (e2 _ _ (e _ _ hx))), upd_same, sz_of (by simp; omega), fun p hp => q p _ (fresh_back ((e2.trans e3).trans e4) hp) (((e2.trans e3).trans e4).trans (Ex.new hp)) ⟨b, upd_same, ?_⟩⟩
    exact Ex.new hp _ _ (e4 _ _ hy)⟩
end
theorem given_ints (n : Nat) (f : Nat → Bool) : given n f (fun i => .int (i : Int)) = (((List.range n).filter f).map fun (i : Nat) => (i : Int)).map V.int := by
  unfold given
  rw [List.map_map]
  rfl
section
variable {P : Program} {w : World} {K : PySem.W.Frag} {mg : Str → Option Value} {base : Heap}
theorem fnok_of {x : Str} {st : Stmt} {N ps : List Str} {k : Nat} {sp : Sp} {f : Addr} {fd : FuncData} (F : FunD K x x (defArgs st) (defBody st) (defScope st) [] [] f fd) (S : FnScope N ps (defScope st)) (len : ∀ vs H Q E, sp vs H Q E → vs.length = ps.length)
    (hbody : ∀ (f : Addr) (cdv : Value) (A : Around) (outer : List Env) (s : Shared) (H : Hp) (vs : List V) (Q : VK) (E : XK), Room k (A.deeper (envOfC x (defScope st) s.heap.objs.size f cdv)) → sp vs H Q E →
      ∃ t, PSs (cxOf CX0 P w K mg base N x (defScope st) f cdv A outer s H E).nox (defBody st) t ∧ t { nx := fun _ H' => Q .non H', rt := Q } (start N vs) H) : FnOk P w K mg base CX0 (k + 1) f fd ps sp :=
  F.ok S len (fun cdv A outer s H vs Q E hr hsp => by
    obtain ⟨t, h, q⟩ := hbody f cdv A outer s H vs Q E hr hsp
    exact ⟨t, h.nox, q⟩)
theorem fn_law {fL : Addr} {fdL : FuncData} (T : Tx K mg) (F : FunD K "law" "law" (defArgs s_law) (defBody s_law) (defScope s_law) [] [] fL fdL) (g_Circuit_lines : C8.Met P w K mg base 2 (He.ga K "Circuit") "lines" (sp_Circuit_lines K) []) (g_Circuit_sources : C8.Met P w K mg base 1 (He.ga K "Circuit") "sources" (sp_Circuit_sources K) []) (g__law_cell : C8.Cal P w K mg base 1 "_law_cell" (sp__law_cell K) []) (g__law_circuit : C8.Cal P w K mg base 6 "_law_circuit" (sp__law_circuit K) []) (g__law_refused : C8.Cal P w K mg base 7 "_law_refused" (sp__law_refused K) []) (g__law_rich : C8.Cal P w K mg base 1 "_law_rich" (sp__law_rich K) []) (g__law_version : C8.Cal P w K mg base 4 "_law_version" (sp__law_version K) []) (g_parting : C8.Cal P w K mg base 7 "parting" (sp_parting K) []) (g_response : C8.Cal P w K mg base 7 "response" (sp_response K) []) (g_responses : C8.Cal P w K mg base 7 "responses" (sp_responses K) []) (g_values : C8.Cal P w K mg base 6 "values" (sp_values K) []) (g_words_of : CalX P w K mg base 6 "words_of" (sp_words_of K)) : FnOk P w K mg base CX0 8 fL fdL ["_law_script"] (sp_law K) := by
  refine fnok_of F sc_law (fun vs H Q E h => by obtain ⟨_, _, rfl, _⟩ := h; rfl) (fun f cdv A outer s H vs Q E hr h => ?_)
  obtain ⟨l, ns, rfl, hx, k⟩ := h
  have hu := hu_of hr
  refine ⟨_, (pss_cons (ps_set (i := 1) sc_law.nd rfl (Or.inr rfl) (C8.pe_c g__law_circuit hr (by decide) rfl (pa_cons (pv 0) (pa_cons pe_int pa_nil))))
        (pss_cons (ps_set (i := 2) sc_law.nd rfl (Or.inl rfl) (pe_callB call_len_seq (by rfl) T.n_len PySem.boot_len (pa_cons (C8.pe_mt0 g_Circuit_sources hr (by decide) (pv 1)) pa_nil)))
        (pss_cons (ps_set (i := 3) sc_law.nd rfl (Or.inl rfl) (C8.pe_c g__law_rich hr (by decide) rfl (pa_cons (C8.pe_c g__law_cell hr (by decide) rfl (pa_cons (pv 0) (pa_cons pe_int pa_nil))) (pa_cons pe_int pa_nil))))
        (pss_cons (ps_set (i := 4) sc_law.nd rfl (Or.inr rfl) (C8.pe_c g__law_version hr (by decide) rfl (pa_cons (pv 1) (pa_cons (pv 3) pa_nil))))
        (pss_cons (ps_set (i := 5) sc_law.nd rfl (Or.inr rfl) (C8.pe_c g__law_version hr (by decide) rfl (pa_cons (pv 1) (pa_cons (pe_op op_fdiv (pv 3) pe_int) pa_nil))))
        (pss_cons (ps_set (i := 6) sc_law.nd rfl (Or.inr rfl) (pe_lst pa_nil))
        (pss_cons (ps_for PassesOwn.never rfl (pi_range1 rfl T.n_range (pa_cons (pe_op op_mod (C8.pe_c g__law_cell hr (by decide) rfl (pa_cons (pv 0) (pa_cons pe_int pa_nil))) pe_int) pa_nil)) (pg_name (i := 7) sc_law.nd rfl (Or.inl rfl))
          (pss_cons (ps_set (i := 8) sc_law.nd rfl (Or.inr rfl) (C8.pe_c g__law_rich hr (by decide) rfl (pa_cons (C8.pe_c g__law_cell hr (by decide) rfl (pa_cons (pv 0) (pa_cons (pe_op op_add pe_int (pv 7)) pa_nil))) (pa_cons (pv 7) pa_nil))))
            (pss_one (ps_expr (pe_bm PySem.F.plainAttrs_list PySem.F.slot_list_append PySem.F.type_list_append mt_append (pv 6) (pa_cons (pe_callTy call_tuple_of (by rfl) T.n_tuple (by decide +kernel) (pa_cons (pe_lc (own := [("_law_j", 9)]) (g := gName 9) (tt := tYes) rfl sc_law.nd (pi_range1 rfl T.n_range (pa_cons (pv 2) pa_nil)) (blkOk_by (N := ["_law_script", "_law_circuit_here", "_law_count", "_law_rich_here", "_law_one", "_law_other", "_law_patterns", "_law_k", "_law_cell_here", "_law_j", "_law_known", "_law_pattern", "_law_words", "_law_line", "_law_due", "_law_weight", "_law_rows"]) (sc := defScope s_law) (by decide +kernel)) (fun _ _ _ _ _ => (pg_name (i := 9) sc_law.nd rfl (Or.inl rfl))) (fun _ _ _ _ _ => pts_nil) (fun _ _ _ _ _ => (pe_op op_mod (pe_op op_fdiv (pv 8) (pe_op op_add pe_int (pe_op op_mul (pv 9) (pv 9)))) pe_int))) pa_nil)) pa_nil))))))
        (pss_cons (ps_setLc (i := 10) (own := [("_law_pattern", 11)]) (g := gName 11) (tt := tYes) rfl sc_law.nd rfl rfl (sw_true rfl rfl rfl (by decide +kernel)) (pi_list (pv 6)) (blkOk_by (N := ["_law_script", "_law_circuit_here", "_law_count", "_law_rich_here", "_law_one", "_law_other", "_law_patterns", "_law_k", "_law_cell_here", "_law_j", "_law_known", "_law_pattern", "_law_words", "_law_line", "_law_due", "_law_weight", "_law_rows"]) (sc := defScope s_law) (by decide +kernel)) (fun _ _ _ _ _ => (pg_name (i := 11) sc_law.nd rfl (Or.inl rfl))) (fun _ _ _ _ _ => pts_nil) (fun _ _ _ _ _ => (C8.pe_c g_values hr (by decide) rfl (pa_cons (pv 1) (pa_cons (pv 4) (pa_cons (pv 11) pa_nil))))))
        (pss_cons (ps_set (i := 12) sc_law.nd rfl (Or.inl rfl) (pe_cx g_words_of hr (by decide) rfl (pa_cons (pv 1) (pa_cons (pv 4) (pa_cons (pv 6) pa_nil)))))
        (pss_cons (ps_if (pt_cmpR (op_neD hr.units) (pe_callB (call_sortedD rfl) (by rfl) T.n_sorted (by decide +kernel) (pa_cons (pv 12) pa_nil)) (pe_callB cr_sortedS (by rfl) T.n_sorted (by decide +kernel) (pa_cons (C8.pe_mt0 g_Circuit_lines hr (by decide) (pv 1)) pa_nil)) (nomark _))
          (pss_one (ps_ret pe_bl))
          pss_nil)
        (pss_cons (ps_for PassesOwn.never rfl (pi_list (C8.pe_mt0 g_Circuit_lines hr (by decide) (pv 1))) (pg_name (i := 13) sc_law.nd rfl (Or.inl rfl))
          (pss_cons (ps_set (i := 14) sc_law.nd rfl (Or.inl rfl) pe_int)
            (pss_cons (ps_set (i := 15) sc_law.nd rfl (Or.inl rfl) pe_int)
            (pss_cons (ps_for PassesOwn.never rfl (pi_range1 rfl T.n_range (pa_cons (pe_callB call_len_seq (by rfl) T.n_len PySem.boot_len (pa_cons (pv 6) pa_nil)) pa_nil)) (pg_name (i := 7) sc_law.nd rfl (Or.inl rfl))
              (pss_cons (ps_set (i := 14) sc_law.nd rfl (Or.inl rfl) (pe_op op_add (pv 14) (pe_op op_mul (pe_dget hu (pe_ix ix_list (pv 10) (pv 7) (fun _ _ => rfl)) (pv 13) (fun _ _ => rfl)) (pv 15))))
                (pss_one (ps_set (i := 15) sc_law.nd rfl (Or.inl rfl) (pe_op op_mul (pv 15) pe_int)))))
            (pss_one (ps_if (PW.pt (pw_or (pt_cmpR op_ne (pe_dget hu (pv 12) (pv 13) (fun _ _ => rfl)) (pv 14) (nomark _)) (pw_or1 (pt_val (pe_callB call_isi (by rfl) T.n_isinstance (by decide +kernel) (pa_cons (pe_dget hu (pv 12) (pv 13) (fun _ _ => rfl)) (pa_cons (pe_bltn (v := .ty "bool") (by rfl) T.n_bool (by decide +kernel) rfl) pa_nil)))))))
              (pss_one (ps_ret pe_bl))
              pss_nil))))))
        (pss_cons (ps_set (i := 16) sc_law.nd rfl (Or.inr rfl) (pe_lc (own := [("_law_pattern", 11)]) (g := gName 11) (tt := tYes) rfl sc_law.nd (pi_list (pv 6)) (blkOk_by (N := ["_law_script", "_law_circuit_here", "_law_count", "_law_rich_here", "_law_one", "_law_other", "_law_patterns", "_law_k", "_law_cell_here", "_law_j", "_law_known", "_law_pattern", "_law_words", "_law_line", "_law_due", "_law_weight", "_law_rows"]) (sc := defScope s_law) (by decide +kernel)) (fun _ _ _ _ _ => (pg_name (i := 11) sc_law.nd rfl (Or.inl rfl))) (fun _ _ _ _ _ => pts_nil) (fun _ _ _ _ _ => (C8.pe_c g_response hr (by decide) rfl (pa_cons (pv 1) (pa_cons (pv 4) (pa_cons (pv 11) pa_nil)))))))
        (pss_cons (ps_if (pt_cmpR (op_neD hr.units) (C8.pe_c g_responses hr (by decide) rfl (pa_cons (pv 1) (pa_cons (pv 4) (pa_cons (pv 6) pa_nil)))) (pv 16) (nomark _))
          (pss_one (ps_ret pe_bl))
          pss_nil)
        (pss_cons (ps_setLc (i := 14) (own := [("_law_k", 7)]) (g := gName 7) rfl sc_law.nd rfl rfl (sw_true rfl rfl rfl (by decide +kernel)) (pi_range1 rfl T.n_range (pa_cons (pe_callB call_len_seq (by rfl) T.n_len PySem.boot_len (pa_cons (pv 6) pa_nil)) pa_nil)) (blkOk_by (N := ["_law_script", "_law_circuit_here", "_law_count", "_law_rich_here", "_law_one", "_law_other", "_law_patterns", "_law_k", "_law_cell_here", "_law_j", "_law_known", "_law_pattern", "_law_words", "_law_line", "_law_due", "_law_weight", "_law_rows"]) (sc := defScope s_law) (by decide +kernel)) (fun _ _ _ _ _ => (pg_name (i := 7) sc_law.nd rfl (Or.inl rfl))) (fun _ _ _ _ _ => pts_one (pt_cmpR (r := rNeD K) (op_neD hr.units) (C8.pe_c g_response hr (by decide) rfl (pa_cons (pv 1) (pa_cons (pv 5) (pa_cons (pe_ix (r := rIxL K) ix_list (pv 6) (pv 7) (fun _ _ => rfl)) pa_nil)))) (pe_ix (r := rIxL K) ix_list (pv 16) (pv 7) (fun _ _ => rfl)) (nomark _))) (fun _ _ _ _ _ => (pv 7)))
        (pss_cons (ps_if (PW.pt (pw_or (pt_cmpR (op_neD hr.units) (C8.pe_c g_parting hr (by decide) rfl (pa_cons (pv 1) (pa_cons (pv 4) (pa_cons (pv 5) (pa_cons (pv 6) pa_nil))))) (pv 14) (nomark _)) (pw_or1 (pt_cmpR (op_neD hr.units) (C8.pe_c g_parting hr (by decide) rfl (pa_cons (pv 1) (pa_cons (pv 4) (pa_cons (pv 4) (pa_cons (pv 6) pa_nil))))) (pe_lst pa_nil) (nomark _)))))
          (pss_one (ps_ret pe_bl))
          pss_nil)
        (pss_one (ps_ret (pe_and (C8.pe_c g__law_refused hr (by decide) rfl (pa_cons (pv 1) (pa_cons (pe_op op_cat (pv 6) (pe_lst (pa_cons (pe_callTy call_tuple_of (by rfl) T.n_tuple (by decide +kernel) (pa_cons (pe_op op_rep (pe_lst (pa_cons pe_int pa_nil)) (pe_op op_add (pv 2) pe_int)) pa_nil)) pa_nil))) pa_nil))) (pe_one (pe_not (C8.pe_c g__law_refused hr (by decide) rfl (pa_cons (pv 1) (pa_cons (pv 6) pa_nil))))))))))))))))))))))), ?_⟩
  refine q_asgG (R := RetF (fun a H2 => ∃ c od, CkIs K H2 a c od)) (eg_call (ea_cons (ev_var rfl) (ea_cons ev_c ea_nil)) mo_F fun H1 e Q E q => ⟨l, ns, rfl, ex_l e hx, q⟩) ?_
  rintro a H1 ha e1 ⟨c, od, hck, hgn⟩
  have hsn : c.srcs.length ≤ 40 := hck.ok.names.sn
  have hln := hck.ok.names.ln
  refine q_asg (v := .int (c.srcs.length : Int)) (ev_is (ev_lenN (eg_sources (ev_var rfl) hck.at_.parts)) (by rw [List.length_map])) fun H2 e2 => ?_
  have e12 := e1.trans e2
  have hx2 := ex_l e12 hx
  refine q_asg (eg_rich (eg_cell (k := 9) (ev_var rfl) ev_c rfl hx2) ev_c) fun H3 e3 => ?_
  generalize richI (cellI ns 9) 3 = rr
  have hck3 := hck.mono (e2.trans e3)
  refine q_asgG (R := RetP (fun v H2 => ∃ ver, VerAt K H2 v ver ∧ ver.Ok c od)) (eg_call (ea_cons (ev_var rfl) (ea_cons (ev_var rfl) ea_nil)) mo_P fun H4 e Q E q => ⟨a, rr, c, od, rfl, ⟨hck3.mono e, hgn⟩, q⟩) ?_
  rintro v1 H4 e4 ⟨ver, hv1, ok1⟩
  have hck4 := hck3.mono e4
  refine q_asgG (R := RetP (fun v H2 => ∃ ver, VerAt K H2 v ver ∧ ver.Ok c od)) (eg_call (ea_cons (ev_var rfl) (ea_cons (ev_op (ev_var rfl) ev_c (rv_I ⟨by decide, by decide⟩)) ea_nil)) mo_P fun H5 e Q E q => ⟨a, _, c, od, rfl, ⟨hck4.mono e, hgn⟩, q⟩) ?_
  rintro v2 H5 e5 ⟨ver2, hv2, ok2⟩
  have hck5 := hck4.mono e5
  have hv15 := hv1.mono e5
  have e05 := ((e12.trans e3).trans e4).trans e5
  have hx5 := ex_l e05 hx
  refine q_asgL (el_lst ea_nil (by decide)) fun pp H6 hpp e6 hlp => ?_
  have h13 := mod_lt' (r := cellI ns 10) (n := 13) (by decide)
  refine q_forR1 (n := cellI ns 10 % 13) (ea_cons (ev_op (eg_cell (k := 10) (ev_var rfl) ev_c rfl (ex_l e6 hx5)) ev_c (rv_I (by decide))) ea_nil) (by omega) (fun i σ' H' => (∃ v7 v8, σ' = [some (.ref l), some (.ref a), some (.int (c.srcs.length : Int)), some (.int rr), some v1, some v2, some (.ref pp), v7, v8, none, none, none, none, none, none, none, none]) ∧ Ex H5 H' ∧ ∃ ps : List PV, H' pp = some (.lst (ps.map (·.1))) ∧ ps.length = i ∧ (∀ p ∈ ps, PatAt K H' p.1 p.2) ∧ ∀ p ∈ ps, Good c.srcs.length p.2)
    (fun H7 e7 => ⟨⟨_, _, rfl⟩, e6.trans e7, [], e7 _ _ hlp, rfl, (fun p hp => nomatch hp), fun p hp => nomatch hp⟩) (fun i σ' H' hi q => ?_) (fun σ' H' q => ?_)
  · obtain ⟨⟨v7, v8, rfl⟩, e, ps, g1, g2, g3, g4⟩ := q
    refine q_asg (eg_rich (eg_cell (k := 11 + i) (ev_var rfl) (ev_op ev_c (ev_var rfl) rv_I0) (by omega) (ex_l e hx5)) (ev_var rfl)) fun H7 e7 => ?_
    generalize richI (cellI ns (11 + i)) (i : Int) = cc
    refine s_appU (ys := ((List.range c.srcs.length).map fun (j : Nat) => cc / (3 + (j : Int) * (j : Int)) % 2).map V.int) (e7 _ _ g1) (ev_var rfl) (eu_tupOf (el_mapR (n := c.srcs.length) (ea_cons (ev_var rfl) ea_nil) (by omega) (by simp) (fun _ => rfl) fun j y H8 e8 hj hy => ?_)) (by rw [List.length_map]; omega) fun pt H8 hpt e8 h8 => ?_
    · obtain ⟨z, hz, rfl⟩ := map_at hy
      rw [List.getElem?_map, List.getElem?_range hj] at hz
      cases hz
      have hjj : 0 ≤ (j : Int) * (j : Int) ∧ (j : Int) * (j : Int) ≤ 1600 := by
        have h1 : j * j ≤ 40 * 40 := Nat.mul_le_mul (by omega) (by omega)
        have h2 : ((j * j : Nat) : Int) = (j : Int) * (j : Int) := by simp
        omega
      exact ev_op (ev_op (ev_var rfl) (ev_op ev_c (ev_op (ev_var rfl) (ev_var rfl) (rv_I (.inl ⟨by omega, by omega⟩))) rv_I0) (rv_I ⟨by omega, by omega⟩)) ev_c (rv_I (by decide))
    · have e78 := e7.trans e8
      have et : ExT H8 (upd H8 pp (.lst (ps.map (·.1) ++ [.ref pt]))) := ExT.lst (e78 _ _ g1)
      refine ⟨⟨_, _, rfl⟩, Ex.mut (e.trans e78) hpp, ps ++ [(.ref pt, (List.range c.srcs.length).map fun (j : Nat) => cc / (3 + (j : Int) * (j : Int)) % 2)], ?_, by simp [g2], fun p hp => ?_, fun p hp => ?_⟩
      · rw [upd_same, List.map_append]
        rfl
      · rcases List.mem_append.mp hp with hp | hp
        · obtain ⟨q, h1, h2⟩ := (g3 p hp).mono e78
          exact ⟨q, h1, ext_t et h2⟩
        · rw [List.mem_singleton.mp hp]
          exact ⟨pt, rfl, ext_t et (st_of h8)⟩
      · rcases List.mem_append.mp hp with hp | hp
        · exact g4 p hp
        · rw [List.mem_singleton.mp hp]
          refine ⟨by simp, List.all_eq_true.mpr fun b hb => ?_⟩
          obtain ⟨j, _, rfl⟩ := List.mem_map.mp hb
          exact bit2 _
  obtain ⟨⟨v7, v8, rfl⟩, e57, ps, hpl, hpn, hpat, hgood⟩ := q
  have hpn12 : ps.length ≤ 12 := by omega
  -- the heap from here on: J
  have e0J := e05.trans e57
  have hckJ := hck5.mono e57
  have hv1J := hv15.mono e57
  have hv2J := hv2.mono e57
  have hpsJ : PatsAt K H' pp ps := ⟨sq_of hpl, hpat, by omega⟩
  have hok := hckJ.ok
  have hvk := fun (j : Nat) (p : PV) (hp : ps[j]? = some p) => whole_keys gval id jnB ver (srcs := c.srcs) od (ws := p.2) (hgood p (List.mem_of_getElem? hp)).1
  refine q_asgG (eg_lcL (K := K) (P := fun j v H => ∃ d p, v = .ref d ∧ ps[j]? = some p ∧ H d = some (.dK ((whole gval id jnB ver c.srcs od p.2).map kvI))) (fun j v J1 J2 et h => ?_) (ev_var rfl) hpsJ.sq (by rw [List.length_map]; omega) (fun _ => rfl) fun j x J1 f1 hj => ?_) ?_
  · obtain ⟨d, p, h1, h2, h3⟩ := h
    exact ⟨d, p, h1, h2, et _ _ h3 fun _ q => by cases q⟩
  · obtain ⟨p, hp, rfl⟩ := map_at hj
    have hpm := List.mem_of_getElem? hp
    intro J2 f2 Q q
    obtain ⟨pa, hpa1, hpa2⟩ := hpat p hpm
    refine eg_call (R := RetF (fun d H2 => H2 d = some (.dK ((whole gval id jnB ver c.srcs od p.2).map kvI)))) (ea_cons (ev_var (v := .ref a) rfl) (ea_cons (ev_var (v := v1) rfl) (ea_cons (ev_var (v := .ref pa) (by rw [hpa1]; rfl)) ea_nil))) mo_F (fun J3 f3 Q E q => ⟨a, v1, pa, c, od, ver, p.2, rfl, hckJ.mono (f1.trans f3), hv1J.mono (f1.trans f3), ok1, ex_t (f1.trans f3) hpa2, (hgood p hpm).1, (hgood p hpm).2, q⟩) J2 f2 _ fun d J3 hd f3 h3 => q _ J3 f3 ⟨d, p, rfl, hp, h3⟩
  rintro pk J1 hpk f1 ⟨kys, hkl, hkn, hky⟩
  rw [List.length_map] at hkn
  refine q_asgG (R := RetF (fun p H2 => H2 p = some (.dK ((wordsV ver c od ps).map kvI)))) (eg_call (ea_cons (ev_var rfl) (ea_cons (ev_var rfl) (ea_cons (ev_var rfl) ea_nil))) mo_F fun J2 f Q E q => ⟨a, v1, pp, c, od, ver, ps, rfl, hckJ.mono (f1.trans f), hv1J.mono (f1.trans f), ok1, hpsJ.mono (f1.trans f), .inl ⟨hgood, q⟩⟩) ?_
  intro pw J2 hpw f2 hwl
  have f12 := f1.trans f2
  have hwk : (wordsV ver c od ps).map (·.1) = c.srcs ++ nms od := whole_keys _ _ _ ver (srcs := c.srcs) od (colW_len ps _)
  have hkp : (c.srcs ++ nms od).Perm c.lines := by
    rw [Ck.lines]
    exact List.Perm.append_left _ (hok.perm.map _)
  have hUl := lines_U hok.forms
  refine q_when (b := false) (et_test (ev_opFF (eg_sortD (ks := c.srcs ++ nms od) (ev_var rfl) hwl ?_ (by rw [hkp.length_eq]; omega)) (eg_sortS (eg_lines (ev_var rfl) (hckJ.mono f12).at_.parts) (by omega)) fun p q K1 K2 g1 hp g2 hq => ?_)) (fun q => nomatch q) fun _ J3 f3 => ?_
  · rw [← hwk, List.map_map, List.map_map]
    rfl
  · obtain ⟨ys, y1, y2, y3⟩ := hp
    obtain ⟨zs, z1, z2, z3⟩ := hq
    have hyz : ys = zs := sorted_eq (y1.trans (hkp.trans z1.symm)) (fun z hz => hUl z ((y1.trans hkp).mem_iff.mp hz)) ((y1.trans hkp).nodup_iff.mpr hok.names.nd) y2 z2
    subst hyz
    have hUy : ∀ z ∈ ys, z ∈ U := fun z hz => hUl z ((y1.trans hkp).mem_iff.mp hz)
    exact rv_neD (.lst (sq_of (g2 _ _ y3)) (dpAll_of fun z _ => .str z)) (.lst (sq_of z3) (dpAll_of fun z _ => .str z)) ((sh_strs 0 hUy).ok (by omega)) ((sh_strs 0 hUy).ok (by omega)) (by rw [eqv_strs]; rfl)
  have f13 := f12.trans f3
  have hwl3 := f3 _ _ hwl
  have hkl3 := f3 _ _ (f2 _ _ hkl)
  refine q_forNL_ro (fun _ σ' => ∃ v7 v13 v14 v15, σ' = [some (.ref l), some (.ref a), some (.int (c.srcs.length : Int)), some (.int rr), some v1, some v2, some (.ref pp), v7, v8, none, some (.ref pk), none, some (.ref pw), v13, v14, v15, none]) (eg_lines (ev_var rfl) (hckJ.mono f13).at_.parts) ⟨_, _, _, _, rfl⟩ (fun i x σ' H'' N hi hs f kN => ?_) (fun σ' J4 hs f4 => ?_)
  · obtain ⟨v7, v13, v14, v15, rfl⟩ := hs
    obtain ⟨z, hz, rfl⟩ := map_at hi
    have hzk := (hok.keys z).mp (List.mem_of_getElem? hz)
    refine q_asg ev_c fun K1 g1 => ?_
    refine q_asg ev_c fun K2 g2 => ?_
    have fg := (f.trans g1).trans g2
    refine q_forR1 (n := (ps.length : Int)) (ea_cons (ev_is (ev_len (ev_var rfl) (ex_l (f13.trans fg) hpsJ.sq)) (by rw [List.length_map])) ea_nil) (by omega) (fun j σ' H3 => (∃ v7, σ' = [some (.ref l), some (.ref a), some (.int (c.srcs.length : Int)), some (.int rr), some v1, some v2, some (.ref pp), v7, v8, none, some (.ref pk), none, some (.ref pw), some (.str z), some (.int (wd j (lkF (FK ver c od ps) z))), some (.int (2 ^ j)), none]) ∧ Ex K2 H3)
      (fun K3 g3 => ⟨⟨_, rfl⟩, g3⟩) (fun j σ' H3 hj q => ?_) (fun σ' H3 q => ?_)
    · obtain ⟨⟨v7, rfl⟩, g3⟩ := q
      have hjl : j < ps.length := by omega
      obtain ⟨y, hy⟩ : ∃ y, kys[j]? = some y := ⟨_, List.getElem?_eq_getElem (by omega)⟩
      obtain ⟨d, p, rfl, hp, hd⟩ := hky j y hy
      have hd3 := g3 _ _ (fg _ _ (f3 _ _ (f2 _ _ hd)))
      have hval := values_lk (ver := ver) hok ok1 (hgood p (List.mem_of_getElem? hp)) hp z
      have hb01 : ∀ b : Bool, 0 ≤ bI b ∧ bI b ≤ 1 := fun b => by cases b <;> decide
      obtain ⟨b0, b1⟩ := hb01 (lkF (FK ver c od ps) z j)
      refine q_asg (v := .int (wd (j + 1) (lkF (FK ver c od ps) z))) (ev_is (ev_op (ev_var rfl) (ev_op (ev_dget (ev_op (ev_var rfl) (ev_var rfl) (rv_ixL (sq_of (g3 _ _ (fg _ _ hkl3))) (atI_nat hy))) (ev_var rfl) (.inl hd3) (v := .int (bI (lkF (FK ver c od ps) z j))) ?_) (ev_var rfl) (rv_I (.inl ⟨by omega, by omega⟩))) rv_I0) rfl) fun K3 g4 => ?_
      · rw [valV_kvI, lk_of (by rw [hvk j p hp]; exact hzk), hval]
        rfl
      · refine s_asg (ev_op (ev_var rfl) ev_c (rv_I (.inr ⟨by decide, by decide⟩))) fun K4 g5 => ⟨⟨some (.int (j : Int)), ?_⟩, (g3.trans g4).trans g5⟩
        have : ((2 : Int) ^ j * 2) = 2 ^ (j + 1) := (Int.pow_succ 2 j).symm
        rw [this]
        rfl
    · obtain ⟨⟨v7, rfl⟩, g3⟩ := q
      have hn : ((ps.length : Int)).toNat = ps.length := Int.toNat_natCast _
      rw [hn]
      have hw3 := g3 _ _ (fg _ _ hwl3)
      have hgw : valV ((wordsV ver c od ps).map kvI) (.inr z) = some (.int (wd ps.length (lkF (FK ver c od ps) z))) := by
        rw [valV_kvI, lk_of (by rw [hwk]; exact hzk), words_lk hok ok1 hgood]
        rfl
      exact s_when (b := false) (et_or (a := false) (et_test (ev_is (ev_op (ev_dget (ev_var rfl) (ev_var rfl) (.inl hw3) hgw) (ev_var rfl) (rv_ne rfl)) (by simp))) fun _ => et_isi (ev_dget (ev_var rfl) (ev_var rfl) (.inl hw3) hgw) (.base (.int _)) (by decide +kernel)) (fun q => nomatch q) fun _ K3 g4 => kN _ _ ⟨_, _, _, _, rfl⟩ (((g1.trans g2).trans g3).trans g4)
  obtain ⟨v7', v13, v14, v15, rfl⟩ := hs
  have f14 := f13.trans f4
  have hpsR : ∀ (j : Nat) (p : PV) (H3 : Hp), Ex H' H3 → ps[j]? = some p → PatAt K H3 p.1 p.2 := fun j p H3 f hp => (hpat p (List.mem_of_getElem? hp)).mono f
  -- one response, told
  have resp : ∀ (vv : V) (vr : Ver), VerAt K H' vv vr → vr.Ok c od → ∀ (σ : L2.St) (J5 : Hp) (E : XK) (t1 t2 t3 : TE) (j : Nat) (p : PV) (pa : Addr), Ex H' J5 → ps[j]? = some p → p.1 = .ref pa → Ev t1 σ J5 (.ref a) → Ev t2 σ J5 vv → Ev t3 σ J5 (.ref pa) →
      EvG (tCall (sp_response K) [] E (tCons t1 (tCons t2 (tCons t3 tNil)))) σ J5 (RetF fun q H2 => H2 q = some (.tup ((respV vr c od p).map V.int))) := by
    intro vv vr hvv okk σ J5 E t1 t2 t3 j p pa f5 hp hpa h1 h2 h3
    have hpm := List.mem_of_getElem? hp
    obtain ⟨pa', hpa1, hpa2⟩ := hpat p hpm
    have : pa' = pa := by
      rw [hpa1] at hpa
      injection hpa
    subst this
    exact eg_call (ea_cons h1 (ea_cons h2 (ea_cons h3 ea_nil))) mo_F fun J6 f6 Q E q => ⟨a, vv, pa', c, od, vr, p.2, rfl, hckJ.mono (f5.trans f6), hvv.mono (f5.trans f6), okk, ex_t (f5.trans f6) hpa2, (hgood p hpm).1, (hgood p hpm).2, q⟩
  refine q_asgG (eg_lcL (K := K) (P := fun j v H => ∃ p, ps[j]? = some p ∧ PatAt K H v (respV ver c od p)) (fun j v K1 K2 et h => ?_) (ev_var rfl) (ex_l f14 hpsJ.sq) (by rw [List.length_map]; omega) (fun _ => rfl) fun j x K1 g1 hj => ?_) ?_
  · obtain ⟨p, h1, q, h2, h3⟩ := h
    exact ⟨p, h1, q, h2, ext_t et h3⟩
  · obtain ⟨p, hp, rfl⟩ := map_at hj
    obtain ⟨pa, hpa1, _⟩ := hpat p (List.mem_of_getElem? hp)
    intro K2 g2 Q q
    exact resp v1 ver hv1J ok1 _ K1 _ _ _ _ j p pa (f14.trans g1) hp hpa1 (ev_var rfl) (ev_var rfl) (ev_var (by rw [hpa1]; rfl)) K2 g2 _ fun d K3 hd g3 h3 => q _ K3 g3 ⟨p, hp, d, rfl, st_of h3⟩
  rintro pr J5 hpr f5 ⟨rys, hrl, hrn, hry⟩
  rw [List.length_map] at hrn
  have f15 := f14.trans f5
  have rowsDp : ∀ (H3 : Hp), Ex J5 H3 → DpAll K H3 rys ((ps.map (respV ver c od)).map fun r => .tuple (r.map PyData.int)) := fun H3 f => dpAll_at (by simp [hrn]) fun j v d hv hd => by
    obtain ⟨p, hp, hpat⟩ := hry j v hv
    rw [List.getElem?_map, List.getElem?_map, hp] at hd
    cases hd
    exact pat_dp (hpat.mono f)
  refine q_when (b := false) (et_test (ev_opFV (P := fun q H2 => ∃ ys : List V, H2 q = some (.lst ys) ∧ ys.length = ps.length ∧ ∀ (j : Nat) v, ys[j]? = some v → PatAt K H2 v (rowAt (wordsV ver c od ps) c.sinks j)) (eg_call (ea_cons (ev_var rfl) (ea_cons (ev_var rfl) (ea_cons (ev_var rfl) ea_nil))) mo_F fun J6 f Q E q => ⟨a, v1, pp, c, od, ver, ps, rfl, hckJ.mono (f15.trans f), hv1J.mono (f15.trans f), ok1, hpsJ.mono (f15.trans f), hgood, q⟩) (ev_var rfl) fun q K1 K2 g1 hq g2 => ?_)) (fun q => nomatch q) fun _ J6 f6 => ?_
  · obtain ⟨ys, y1, y2, y3⟩ := hq
    refine rv_neD (d := .list ((ps.map (respV ver c od)).map fun r => .tuple (r.map PyData.int))) (.lst (sq_of (g2 _ _ y1)) (dpAll_at (by simp [y2]) fun j v d hv hd => ?_)) (.lst (sq_of ((g1.trans g2) _ _ hrl)) (rowsDp K2 (g1.trans g2))) ((sh_rows 0 _).ok (by omega)) ((sh_rows 0 _).ok (by omega)) (by rw [eqv_rows]; rfl)
    obtain ⟨p, hp⟩ : ∃ p, ps[j]? = some p := ⟨_, List.getElem?_eq_getElem (by have := (List.getElem?_eq_some_iff.mp hv).1; omega)⟩
    rw [List.getElem?_map, List.getElem?_map, hp] at hd
    cases hd
    have := y3 j v hv
    rw [rows_eq hok ok1 hgood hp] at this
    exact pat_dp (this.mono g2)
  have f16 := f15.trans f6
  refine q_asgL (el_lcR1 (n := (ps.length : Int)) (fun i => decide (respV ver2 c od (ps.getD i (.non, [])) ≠ respV ver c od (ps.getD i (.non, [])))) (fun i => .int (i : Int)) (ea_cons (ev_is (ev_len (ev_var rfl) (ex_l f16 hpsJ.sq)) (by rw [List.length_map])) ea_nil) ⟨by omega, by omega⟩ (fun _ => rfl) (fun i K1 g1 hi => ?_) (fun i K1 g1 hi _ => ev_var rfl)) fun pd J7 hpd f7 hdl => ?_
  · have hil : i < ps.length := by omega
    have hp : ps[i]? = some (ps.getD i (.non, [])) := getD_at hil
    generalize ps.getD i (.non, []) = p at hp
    obtain ⟨pa, hpa1, _⟩ := hpat p (List.mem_of_getElem? hp)
    obtain ⟨y, hy⟩ : ∃ y, rys[i]? = some y := ⟨_, List.getElem?_eq_getElem (by omega)⟩
    obtain ⟨p', hp', hyp⟩ := hry i y hy
    have hpp : p' = p := by
      rw [hp] at hp'
      exact (Option.some.inj hp').symm
    subst hpp
    refine et_test (ev_opFV (resp v2 ver2 hv2J ok2 _ K1 _ _ _ _ i p' pa (f16.trans g1) hp hpa1 (ev_var rfl) (ev_var rfl) (ev_op (ev_var rfl) (ev_var rfl) (rv_ixL (ex_l (f16.trans g1) hpsJ.sq) (atI_nat (by rw [List.getElem?_map, hp, ← hpa1]; rfl))))) (ev_op (ev_var rfl) (ev_var rfl) (rv_ixL (sq_of (g1 _ _ (f6 _ _ hrl))) (atI_nat hy))) fun q K2 K3 g2 hq g3 => ?_)
    refine rv_neD (pat_dp ⟨q, rfl, st_of (g3 _ _ hq)⟩) (pat_dp (hyp.mono ((f6.trans g1).trans (g2.trans g3)))) ((sh_ints 0 _).ok (by omega)) ((sh_ints 0 _).ok (by omega)) ?_
    rw [eqv_tup]
    simp
  rw [Int.toNat_natCast, given_ints] at hdl
  have f17 := f16.trans f7
  have hpart : ∀ (vr2 : Ver), vr2.Ok c od → given ps.length (fun i => decide (Builtin.bitAnd (partW (wordsV ver c od ps) (wordsV vr2 c od ps) c.sinks / 2 ^ i) 1 = 1)) (fun i => .int (i : Int)) = given ps.length (fun i => decide (respV vr2 c od (ps.getD i (.non, [])) ≠ respV ver c od (ps.getD i (.non, [])))) fun i => .int (i : Int) := fun vr2 okk => given_congr fun i hi => part_eq hok ok1 okk hgood (getD_at hi)
  refine q_when (b := false) (et_or (a := false) (et_test (ev_opL1 (eg_call (R := RetL _) (ea_cons (ev_var rfl) (ea_cons (ev_var rfl) (ea_cons (ev_var rfl) (ea_cons (ev_var rfl) ea_nil)))) mo_L fun J8 f Q E q => ⟨a, v1, v2, pp, c, od, ver, ver2, ps, rfl, hckJ.mono (f17.trans f), hv1J.mono (f17.trans f), ok1, hv2J.mono (f17.trans f), ok2, hpsJ.mono (f17.trans f), hgood, by rw [hpart ver2 ok2, given_ints]; exact q⟩) (fun J8 f => ev_var rfl) fun q K1 hq g1 => rv_neD (.lst (sq_of hq) (dp_ints _)) (.lst (sq_of (g1 _ _ hdl)) (dp_ints _)) ((sh_lints 0 _).ok (by omega)) ((sh_lints 0 _).ok (by omega)) (by rw [eqv_list]; simp))) fun _ => et_test (ev_opLL (xs := []) (ys := []) (eg_call (R := RetL []) (ea_cons (ev_var rfl) (ea_cons (ev_var rfl) (ea_cons (ev_var rfl) (ea_cons (ev_var rfl) ea_nil)))) mo_L fun J8 f Q E q => ⟨a, v1, v1, pp, c, od, ver, ver, ps, rfl, hckJ.mono (f17.trans f), hv1J.mono (f17.trans f), ok1, hv1J.mono (f17.trans f), ok1, hpsJ.mono (f17.trans f), hgood, by
      have hz : given ps.length (fun i => decide (respV ver c od (ps.getD i (.non, [])) ≠ respV ver c od (ps.getD i (.non, [])))) (fun i => V.int (i : Int)) = [] := by
        rw [given_congr (g := fun _ => false) fun i hi => by simp]
        exact given_none
      rw [hpart ver ok1, hz]
      exact q⟩) (el_lst ea_nil (by decide)) fun q q2 K1 hq hq2 g1 => rv_neD (.lst (sq_of hq) .nil) (.lst (sq_of hq2) .nil) rfl rfl rfl)) (fun q => nomatch q) fun _ J8 f8 => ?_
  have f18 := f17.trans f8
  have hz01 : (List.replicate ((c.srcs.length : Int) + 1).toNat (0 : Int)).length = c.srcs.length + 1 := by rw [List.length_replicate]; omega
  refine s_ret (ev_andV (a := true) (b := true) (ev_g (eg_call2F (ev_var rfl) (eg_catU (ev_var rfl) (f18 _ _ hpl) (eu_tupOf (el_rep (ev_op (ev_var rfl) ev_c rv_I0) (by omega))) (by rw [List.length_map]; omega)) mo_V fun p J9 f hp Q E q => ?_)) fun _ => ev_is (ev_notV (a := false) (ev_g (eg_call (ea_cons (ev_var rfl) (ea_cons (ev_var rfl) ea_nil)) mo_V fun J9 f Q E q => ⟨a, pp, c, od, ps, false, rfl, hckJ.mono (f18.trans f), hpsJ.mono (f18.trans f), .inl ⟨rfl, hgood⟩, q⟩))) rfl) fun J9 f9 => k J9 (e0J.trans (f18.trans f9))
  obtain ⟨b, hb1, hb2⟩ := hp
  refine ⟨a, p, c, od, ps ++ [(.ref b, List.replicate ((c.srcs.length : Int) + 1).toNat (0 : Int))], true, rfl, hckJ.mono (f18.trans f), ⟨?_, ?_, by rw [List.length_append]; simp; omega⟩, .inr ⟨rfl, ps, _, rfl, hgood, by rw [hz01]; omega, by rw [hz01]; omega⟩, q⟩
  · rw [List.map_append]
    exact sq_of hb1
  · intro p hp
    rcases List.mem_append.mp hp with hp | hp
    · exact (hpat p hp).mono (f18.trans f)
    · rw [List.mem_singleton.mp hp]
      exact ⟨b, rfl, st_of hb2⟩
end
end Pw


set_option maxHeartbeats 0
namespace Pw
open PySem PySem.Spec PyProof.Rows L2 Evl
/-! ### the head: facts by names, the run -/
def dF (x : Str) (st : Stmt) : He.DefD := ⟨(x, none), x, x, defArgs st, defBody st, defScope st, [], []⟩
def dM (C m q : Str) (st : Stmt) : He.DefD := ⟨(C, some m), m, q, defArgs st, defBody st, defScope st, [], []⟩
def fn0 : List He.DefD := [dF "is_integer" s_is_integer, dF "is_bit" s_is_bit, dF "are_bits" s_are_bits, dF "is_name" s_is_name, dF "is_stem" s_is_stem, dF "is_pin" s_is_pin, dF "is_short" s_is_short, dF "is_break" s_is_break, dF "check_version" s_check_version, dF "shorts" s_shorts, dF "gate_value" s_gate_value, dF "joined" s_joined, dF "stuck_pin" s_stuck_pin, dF "pin_value" s_pin_value, dF "pass_through" s_pass_through, dF "forced_lines" s_forced_lines, dF "check_pattern" s_check_pattern, dF "values" s_values, dF "response" s_response, dF "word_of" s_word_of]
def fn1 : List He.DefD := [dF "gate_word" s_gate_word, dF "words_of" s_words_of, dF "responses" s_responses, dF "parting" s_parting, dF "pins_allowed" s_pins_allowed, dF "is_row" s_is_row, dF "is_gate" s_is_gate, dF "_law_cell" s__law_cell, dF "_law_rich" s__law_rich, dF "_law_gate" s__law_gate, dF "_law_parts" s__law_parts, dF "_law_circuit" s__law_circuit, dF "_law_version" s__law_version, dF "_law_refused" s__law_refused, dF "law" s_law, dM "Many" "__init__" "Many.__init__" s_Many___init__, dM "Many" "full" "Many.full" s_Many_full, dM "Many" "pin" "Many.pin" s_Many_pin, dM "Many" "through" "Many.through" s_Many_through, dM "Many" "words" "Many.words" s_Many_words]
def fn2 : List He.DefD := [dM "Circuit" "__init__" "Circuit.__init__" s_Circuit___init__, dM "Circuit" "check_forms" "Circuit.check_forms" s_Circuit_check_forms, dM "Circuit" "check_names" "Circuit.check_names" s_Circuit_check_names, dM "Circuit" "lines" "Circuit.lines" s_Circuit_lines, dM "Circuit" "uses" "Circuit.uses" s_Circuit_uses, dM "Circuit" "sources" "Circuit.sources" s_Circuit_sources, dM "Circuit" "sinks" "Circuit.sinks" s_Circuit_sinks, dM "Circuit" "sorted_gates" "Circuit.sorted_gates" s_Circuit_sorted_gates, dM "Circuit" "above" "Circuit.above" s_Circuit_above]
def fn : List He.DefD := fn0 ++ fn1 ++ fn2
def fa0 : List He.Fa := [.glo "is_integer", .glo "is_bit", .glo "are_bits", .glo "is_name", .glo "is_stem", .glo "is_pin", .glo "is_short", .glo "is_break", .glo "check_version", .glo "shorts", .glo "gate_value", .glo "joined", .glo "stuck_pin", .glo "pin_value", .glo "pass_through", .glo "forced_lines", .glo "check_pattern", .glo "values", .glo "response", .glo "word_of"]
def fa1 : List He.Fa := [.glo "gate_word", .glo "words_of", .glo "responses", .glo "parting", .glo "pins_allowed", .glo "is_row", .glo "is_gate", .glo "_law_cell", .glo "_law_rich", .glo "_law_gate", .glo "_law_parts", .glo "_law_circuit", .glo "_law_version", .glo "_law_refused", .glo "law", .glo "Circuit", .glo "Many", .glo "BadPattern", .glo "KINDS", .free "isinstance"]
def fa2 : List He.Fa := [.free "len", .free "all", .free "sum", .free "int", .free "bool", .free "str", .free "tuple", .free "list", .free "min", .free "max", .free "sorted", .free "range", .free "enumerate", .free "zip", .int "MOST_NAME" 12, .int "MOST_PINS" 4, .int "MOST_LINES" 400, .int "MOST_SOURCES" 40, .str "LETTERS" "abcdefghijklmnopqrstuvwxyz", .str "FIGURES" "0123456789"]
def fa3 : List He.Fa := [.cls "Circuit", .cls "Many", .noat "Circuit" "inputs", .noat "Circuit" "registers", .noat "Circuit" "gates", .noat "Circuit" "outputs", .noat "Circuit" "gate_of", .noat "Circuit" "order", .noat "Many" "circuit", .noat "Many" "version", .noat "Many" "mask", .noat "Many" "given", .meth "Many" "full", .meth "Many" "pin", .meth "Many" "through", .meth "Many" "words", .meth "Circuit" "check_forms", .meth "Circuit" "check_names", .meth "Circuit" "lines", .meth "Circuit" "uses"]
def fa4 : List He.Fa := [.meth "Circuit" "sources", .meth "Circuit" "sinks", .meth "Circuit" "sorted_gates", .meth "Circuit" "above", .mkr "Circuit", .mkr "Many", .exc "BadPattern", .exm "BadPattern" "BadPattern" true]
def fa : List He.Fa := fa0 ++ fa1 ++ fa2 ++ fa3 ++ fa4
def kindsD : List He.Dv := [.str "and", .str "or", .str "nand", .str "nor", .str "xor", .str "xnor", .str "not", .str "buf", .str "low", .str "high"]
def ex (K : PySem.W.Frag) : Bool := He.tupB K "KINDS" kindsD
abbrev R : PySem.W.OpenRow := PySem.W.OpenLaw.row PySem.Challenge.rw_probewright_k12_whole_many_patterns_at_o
abbrev hk : PySem.W.Hook := He.hookX 6 fa fn [] [] ex
def ob (s : PySem.W.SharedT) : He.AlX := He.obsX 6 fa fn [] [] ex (HandSHeadRun.getT s)
theorem ob_eq (s : PySem.W.SharedT) : ob s = hk.obs s.abs := He.obsX_eq (HandSHeadRun.getT_eq s)
def loose : List Str := (["ProbeError", "BadCircuit", "BadBreak", "BadPattern", "MOST_NAME", "MOST_PINS", "MOST_LINES", "MOST_SOURCES", "LETTERS", "FIGURES", "is_integer", "is_bit", "are_bits", "is_name", "is_stem", "is_pin", "is_short", "is_break", "check_version", "shorts"] : List Str) ++ (["gate_value", "joined", "stuck_pin", "pin_value", "pass_through", "forced_lines", "check_pattern", "values", "response", "word_of", "gate_word", "Many", "words_of", "responses", "parting", "KINDS", "pins_allowed", "is_row", "is_gate", "Circuit"] : List Str) ++ (["_law_cell", "_law_rich", "_law_gate", "_law_parts", "_law_circuit", "_law_version", "_law_refused"] : List Str)
theorem run (w : World) : HandSHeadRun.RunEq R (PySem.W.view R.prog [54]) hk ob 3000 loose w := by
  intro os
  kernel_rfl
/-! ### the end -/
section
variable {P : Program} {w : World} {K : PySem.W.Frag} {mg : Str → Option Value} {h : Heap}
theorem tx_of (X : K.In h) (G : h.Ns mainGlobals mg) (c : He.SaysD fa fn K) (e : ex K = true) : Tx K mg := by
  have cI : ∀ {x : Str} {i : Int}, (He.Fa.int x i).ok K = true → ∃ u, mg x = some u ∧ RelV (.int i) u := fun h => by
    obtain ⟨t, ht⟩ := He.int_ok X G h
    exact ⟨_, ht, t, rfl⟩
  have cS : ∀ {x z : Str}, (He.Fa.str x z).ok K = true → ∃ u, mg x = some u ∧ RelV (.str z) u := fun h => by
    obtain ⟨t, ht⟩ := He.str_ok X G h
    exact ⟨_, ht, t, rfl⟩
  obtain ⟨b1, b2, b3, b4⟩ := He.exc_ok (c.fact 86 (f := .exc "BadPattern") rfl)
  exact {
    n_isinstance := He.free_ok X G (c.fact 39 (f := .free "isinstance") rfl)
    n_len := He.free_ok X G (c.fact 40 (f := .free "len") rfl)
    n_all := He.free_ok X G (c.fact 41 (f := .free "all") rfl)
    n_sum := He.free_ok X G (c.fact 42 (f := .free "sum") rfl)
    n_int := He.free_ok X G (c.fact 43 (f := .free "int") rfl)
    n_bool := He.free_ok X G (c.fact 44 (f := .free "bool") rfl)
    n_str := He.free_ok X G (c.fact 45 (f := .free "str") rfl)
    n_tuple := He.free_ok X G (c.fact 46 (f := .free "tuple") rfl)
    n_list := He.free_ok X G (c.fact 47 (f := .free "list") rfl)
    n_min := He.free_ok X G (c.fact 48 (f := .free "min") rfl)
    n_max := He.free_ok X G (c.fact 49 (f := .free "max") rfl)
    n_sorted := He.free_ok X G (c.fact 50 (f := .free "sorted") rfl)
    n_range := He.free_ok X G (c.fact 51 (f := .free "range") rfl)
    n_enumerate := He.free_ok X G (c.fact 52 (f := .free "enumerate") rfl)
    n_zip := He.free_ok X G (c.fact 53 (f := .free "zip") rfl)
    cMOST_NAME := cI (c.fact 54 (f := .int "MOST_NAME" 12) rfl)
    cMOST_PINS := cI (c.fact 55 (f := .int "MOST_PINS" 4) rfl)
    cMOST_LINES := cI (c.fact 56 (f := .int "MOST_LINES" 400) rfl)
    cMOST_SOURCES := cI (c.fact 57 (f := .int "MOST_SOURCES" 40) rfl)
    cLETTERS := cS (c.fact 58 (f := .str "LETTERS" "abcdefghijklmnopqrstuvwxyz") rfl)
    cFIGURES := cS (c.fact 59 (f := .str "FIGURES" "0123456789") rfl)
    cKINDS := ⟨_, He.glo_ok X G (c.fact 38 (f := .glo "KINDS") rfl), rfl⟩
    clCircuit := He.cls_ok (c.fact 60 (f := .cls "Circuit") rfl)
    clMany := He.cls_ok (c.fact 61 (f := .cls "Many") rfl)
    na_inputs := He.noat_ok (c.fact 62 (f := .noat "Circuit" "inputs") rfl)
    na_registers := He.noat_ok (c.fact 63 (f := .noat "Circuit" "registers") rfl)
    na_gates := He.noat_ok (c.fact 64 (f := .noat "Circuit" "gates") rfl)
    na_outputs := He.noat_ok (c.fact 65 (f := .noat "Circuit" "outputs") rfl)
    na_gate_of := He.noat_ok (c.fact 66 (f := .noat "Circuit" "gate_of") rfl)
    na_order := He.noat_ok (c.fact 67 (f := .noat "Circuit" "order") rfl)
    nm_circuit := He.noat_ok (c.fact 68 (f := .noat "Many" "circuit") rfl)
    nm_version := He.noat_ok (c.fact 69 (f := .noat "Many" "version") rfl)
    nm_mask := He.noat_ok (c.fact 70 (f := .noat "Many" "mask") rfl)
    nm_given := He.noat_ok (c.fact 71 (f := .noat "Many" "given") rfl)
    bIn := b1
    bKp := b2
    bSub := b3
    bTy := b4
    bMg := He.glo_ok X G (c.fact 37 (f := .glo "BadPattern") rfl)
    bEx := He.exm_ok (c.fact 87 (f := .exm "BadPattern" "BadPattern" true) rfl)
    tKINDS := fun H => He.tupB_ok e H }
theorem facts {f : Addr} (X : K.In h) (G : h.Ns mainGlobals mg) (hfa : mg ("law" : Str) = some (.ref f)) (c : He.SaysD fa fn K) (e : ex K = true) :
    ∃ fd : FuncData, (∀ (s : Shared) (v : Value), BindsTo s fd ⟨[v], []⟩ [("_law_script", v)]) ∧ ∀ base : Heap, K.In base → base.Ns mainGlobals mg → FnOk P w K mg base CX0 8 f fd ["_law_script"] (sp_law K) := by
  have T := tx_of X G c e
  have dFF : ∀ {x : Str} {st : Stmt} (i j : Nat), fn[i]? = some (dF x st) → fa[j]? = some (.glo x) → DefF K mg x st := fun i j h1 h2 => by
    obtain ⟨fd, F⟩ := c.def_ i h1
    exact ⟨_, fd, F, He.glo_ok X G (c.fact j h2)⟩
  have dFM : ∀ {C m q : Str} {st : Stmt} (i j : Nat), fn[i]? = some (dM C m q st) → fa[j]? = some (.meth C m) → DefM K (He.ga K C) m q st := fun i j h1 h2 => by
    obtain ⟨fd, F⟩ := c.def_ i h1
    exact ⟨_, fd, F, He.meth_ok (c.fact j h2)⟩
  have dFI : ∀ {C q : Str} {st : Stmt} (i j k : Nat), fn[i]? = some (dM C "__init__" q st) → fa[j]? = some (.mkr C) → fa[k]? = some (.glo C) → DefI K mg C (He.ga K C) q st := fun i j k h1 h2 h3 => by
    obtain ⟨fd, F⟩ := c.def_ i h1
    exact ⟨_, fd, F, He.mkr_ok (c.fact j h2), He.glo_ok X G (c.fact k h3)⟩
  obtain ⟨fd, F⟩ := c.def_ 34 (d := dF "law" s_law) rfl
  have ef := hfa.symm.trans (He.glo_ok X G (c.fact 34 (f := .glo "law") rfl))
  cases ef
  have b := FunD.bindsA (ps := ["_law_script"]) F fun _ _ _ _ _ _ us hl => match us, hl with | [_], _ => rfl
  refine ⟨fd, fun s v => b s [v] rfl, fun base _ _ => ?_⟩
  have g_Circuit_sources := ok_Circuit_sources (P := P) (w := w) (base := base) T (dFM (C := "Circuit") (m := "sources") (q := "Circuit.sources") (st := s_Circuit_sources) 45 80 rfl rfl) 
  have g_Circuit_lines := ok_Circuit_lines (P := P) (w := w) (base := base) T (dFM (C := "Circuit") (m := "lines") (q := "Circuit.lines") (st := s_Circuit_lines) 43 78 rfl rfl) g_Circuit_sources
  have g__law_cell := ok__law_cell (P := P) (w := w) (base := base) T (dFF (x := "_law_cell") (st := s__law_cell) 27 27 rfl rfl) 
  have g_is_name := ok_is_name (P := P) (w := w) (base := base) T (dFF (x := "is_name") (st := s_is_name) 3 3 rfl rfl) 
  have g_pins_allowed := ok_pins_allowed (P := P) (w := w) (base := base) T (dFF (x := "pins_allowed") (st := s_pins_allowed) 24 24 rfl rfl) 
  have g_is_gate := ok_is_gate (P := P) (w := w) (base := base) T (dFF (x := "is_gate") (st := s_is_gate) 26 26 rfl rfl) g_is_name g_pins_allowed
  have g_is_row := ok_is_row (P := P) (w := w) (base := base) T (dFF (x := "is_row") (st := s_is_row) 25 25 rfl rfl) g_is_name
  have g_Circuit_check_forms := ok_Circuit_check_forms (P := P) (w := w) (base := base) T (dFM (C := "Circuit") (m := "check_forms") (q := "Circuit.check_forms") (st := s_Circuit_check_forms) 41 76 rfl rfl) g_is_gate g_is_name g_is_row
  have g_Circuit_uses := ok_Circuit_uses (P := P) (w := w) (base := base) T (dFM (C := "Circuit") (m := "uses") (q := "Circuit.uses") (st := s_Circuit_uses) 44 79 rfl rfl) 
  have g_Circuit_check_names := ok_Circuit_check_names (P := P) (w := w) (base := base) T (dFM (C := "Circuit") (m := "check_names") (q := "Circuit.check_names") (st := s_Circuit_check_names) 42 77 rfl rfl) g_Circuit_lines g_Circuit_sources g_Circuit_uses
  have g_Circuit_sorted_gates := ok_Circuit_sorted_gates (P := P) (w := w) (base := base) T (dFM (C := "Circuit") (m := "sorted_gates") (q := "Circuit.sorted_gates") (st := s_Circuit_sorted_gates) 47 82 rfl rfl) g_Circuit_sources
  have g_Circuit := ok_Circuit___init__ (P := P) (w := w) (base := base) T (dFI (C := "Circuit") (q := "Circuit.__init__") (st := s_Circuit___init__) 40 84 35 rfl rfl rfl) g_Circuit_check_forms g_Circuit_check_names g_Circuit_sorted_gates
  have g__law_gate := ok__law_gate (P := P) (w := w) (base := base) T (dFF (x := "_law_gate") (st := s__law_gate) 29 29 rfl rfl) 
  have g__law_rich := ok__law_rich (P := P) (w := w) (base := base) T (dFF (x := "_law_rich") (st := s__law_rich) 28 28 rfl rfl) 
  have g__law_parts := ok__law_parts (P := P) (w := w) (base := base) T (dFF (x := "_law_parts") (st := s__law_parts) 30 30 rfl rfl) g__law_cell g__law_gate g__law_rich
  have g__law_circuit := ok__law_circuit (P := P) (w := w) (base := base) T (dFF (x := "_law_circuit") (st := s__law_circuit) 31 31 rfl rfl) g_Circuit g__law_parts
  have g_word_of := ok_word_of (P := P) (w := w) (base := base) T (dFF (x := "word_of") (st := s_word_of) 19 19 rfl rfl) 
  have g_Many := ok_Many___init__ (P := P) (w := w) (base := base) T (dFI (C := "Many") (q := "Many.__init__") (st := s_Many___init__) 35 85 36 rfl rfl rfl) g_Circuit_sources g_word_of
  have g_Many_full := ok_Many_full (P := P) (w := w) (base := base) T (dFM (C := "Many") (m := "full") (q := "Many.full") (st := s_Many_full) 36 72 rfl rfl) 
  have g_stuck_pin := ok_stuck_pin (P := P) (w := w) (base := base) T (dFF (x := "stuck_pin") (st := s_stuck_pin) 12 12 rfl rfl) 
  have g_Many_pin := ok_Many_pin (P := P) (w := w) (base := base) T (dFM (C := "Many") (m := "pin") (q := "Many.pin") (st := s_Many_pin) 37 73 rfl rfl) g_Many_full g_stuck_pin
  have g_gate_word := ok_gate_word (P := P) (w := w) (base := base) T (dFF (x := "gate_word") (st := s_gate_word) 20 20 rfl rfl) 
  have g_Many_through := ok_Many_through (P := P) (w := w) (base := base) T (dFM (C := "Many") (m := "through") (q := "Many.through") (st := s_Many_through) 38 74 rfl rfl) g_Many_pin g_gate_word
  have g_Many_words := ok_Many_words (P := P) (w := w) (base := base) T (dFM (C := "Many") (m := "words") (q := "Many.words") (st := s_Many_words) 39 75 rfl rfl) g_Many_full g_Many_through
  have g_is_integer := ok_is_integer (P := P) (w := w) (base := base) T (dFF (x := "is_integer") (st := s_is_integer) 0 0 rfl rfl) 
  have g_is_bit := ok_is_bit (P := P) (w := w) (base := base) T (dFF (x := "is_bit") (st := s_is_bit) 1 1 rfl rfl) g_is_integer
  have g_are_bits := ok_are_bits (P := P) (w := w) (base := base) T (dFF (x := "are_bits") (st := s_are_bits) 2 2 rfl rfl) g_is_bit
  have g_check_pattern := ok_check_pattern (P := P) (w := w) (base := base) T (dFF (x := "check_pattern") (st := s_check_pattern) 16 16 rfl rfl) g_Circuit_sources g_are_bits
  have g_is_pin := ok_is_pin (P := P) (w := w) (base := base) T (dFF (x := "is_pin") (st := s_is_pin) 5 5 rfl rfl) g_is_bit g_is_integer
  have g_Circuit_above := ok_Circuit_above (P := P) (w := w) (base := base) T (dFM (C := "Circuit") (m := "above") (q := "Circuit.above") (st := s_Circuit_above) 48 83 rfl rfl) 
  have g_is_short := ok_is_short (P := P) (w := w) (base := base) T (dFF (x := "is_short") (st := s_is_short) 6 6 rfl rfl) g_Circuit_above g_Circuit_lines
  have g_is_stem := ok_is_stem (P := P) (w := w) (base := base) T (dFF (x := "is_stem") (st := s_is_stem) 4 4 rfl rfl) g_Circuit_lines g_is_bit
  have g_is_break := ok_is_break (P := P) (w := w) (base := base) T (dFF (x := "is_break") (st := s_is_break) 7 7 rfl rfl) g_is_pin g_is_short g_is_stem
  have g_check_version := ok_check_version (P := P) (w := w) (base := base) T (dFF (x := "check_version") (st := s_check_version) 8 8 rfl rfl) g_is_break
  have g_words_of := ok_words_of (P := P) (w := w) (base := base) T (dFF (x := "words_of") (st := s_words_of) 21 21 rfl rfl) g_Many g_Many_words g_check_pattern g_check_version
  have g__law_refused := ok__law_refused (P := P) (w := w) (base := base) T (dFF (x := "_law_refused") (st := s__law_refused) 33 33 rfl rfl) g_words_of
  have g_shorts := ok_shorts (P := P) (w := w) (base := base) T (dFF (x := "shorts") (st := s_shorts) 9 9 rfl rfl) g_Circuit_above g_Circuit_lines
  have g__law_version := ok__law_version (P := P) (w := w) (base := base) T (dFF (x := "_law_version") (st := s__law_version) 32 32 rfl rfl) g_Circuit_lines g_shorts
  have g_Circuit_sinks := ok_Circuit_sinks (P := P) (w := w) (base := base) T (dFM (C := "Circuit") (m := "sinks") (q := "Circuit.sinks") (st := s_Circuit_sinks) 46 81 rfl rfl) 
  have g_parting := ok_parting (P := P) (w := w) (base := base) T (dFF (x := "parting") (st := s_parting) 23 23 rfl rfl) g_Circuit_sinks g_words_of
  have g_joined := ok_joined (P := P) (w := w) (base := base) T (dFF (x := "joined") (st := s_joined) 11 11 rfl rfl) 
  have g_gate_value := ok_gate_value (P := P) (w := w) (base := base) T (dFF (x := "gate_value") (st := s_gate_value) 10 10 rfl rfl) 
  have g_pin_value := ok_pin_value (P := P) (w := w) (base := base) T (dFF (x := "pin_value") (st := s_pin_value) 13 13 rfl rfl) g_stuck_pin
  have g_pass_through := ok_pass_through (P := P) (w := w) (base := base) T (dFF (x := "pass_through") (st := s_pass_through) 14 14 rfl rfl) g_Circuit_sources g_gate_value g_pin_value
  have g_forced_lines := ok_forced_lines (P := P) (w := w) (base := base) T (dFF (x := "forced_lines") (st := s_forced_lines) 15 15 rfl rfl) g_joined g_pass_through
  have g_values := ok_values (P := P) (w := w) (base := base) T (dFF (x := "values") (st := s_values) 17 17 rfl rfl) g_check_pattern g_check_version g_forced_lines g_pass_through
  have g_response := ok_response (P := P) (w := w) (base := base) T (dFF (x := "response") (st := s_response) 18 18 rfl rfl) g_Circuit_sinks g_values
  have g_responses := ok_responses (P := P) (w := w) (base := base) T (dFF (x := "responses") (st := s_responses) 22 22 rfl rfl) g_Circuit_sinks g_words_of
  exact fn_law T F g_Circuit_lines g_Circuit_sources g__law_cell g__law_circuit g__law_refused g__law_rich g__law_version g_parting g_response g_responses g_values g_words_of
end
end Pw
open PySem PySem.W PySem.Calls PyProof.Rows
theorem PySem.Challenge.cw_probewright_k12_whole_many_patterns_at_o_holds : PySem.Challenge.rw_probewright_k12_whole_many_patterns_at_o.Holds := by
  w_on; o_law
  refine HandSHeadRun.head_any (r := OpenLaw.row PySem.Challenge.rw_probewright_k12_whole_many_patterns_at_o) (q := view (OpenLaw.row PySem.Challenge.rw_probewright_k12_whole_many_patterns_at_o).prog [54]) (H := Pw.hk) (ob := Pw.ob) (M := 3000) (loose := Pw.loose) (d := HandSHeadRun.topDef (OpenLaw.row PySem.Challenge.rw_probewright_k12_whole_many_patterns_at_o).prog 54) (kwd := []) Pw.ob_eq
    (by kernel_rfl) (fun s => by kernel_rfl) Pw.run (by kernel_rfl) (by kernel_rfl) (by kernel_rfl) (by rfl) (by first | assumption | decide +kernel) (by decide +kernel) ⟨rfl, rfl, rfl, rfl, rfl, by decide +kernel⟩ ?hw ?hc
  case hw => w_witness2
  case hc =>
    refine L2.walk_ofE (l := PySem.Challenge.rw_probewright_k12_whole_many_patterns_at_o) (n := 63) (k := 8) (x := "_law_script") (CX := L2.CX0) rfl (by decide) (by kernel_rfl) ⟨rfl, by decide, by decide⟩ ?F (fun _ _ _ _ z => z)
    intro w mg fa h Y G hmg0
    obtain ⟨K, KX, c⟩ := Y
    have hmg : mg ("law" : PySem.Str) = some (.ref fa) := by
      have e : (HandSHeadRun.topDef (OpenLaw.row PySem.Challenge.rw_probewright_k12_whole_many_patterns_at_o).prog 54).name = ("law" : PySem.Str) := by kernel_rfl
      rw [← e]
      exact hmg0
    obtain ⟨fd, hb, hF⟩ := Pw.facts (P := (PySem.Challenge.rw_probewright_k12_whole_many_patterns_at_o).prog) (w := w) KX G hmg c.t.d c.more
    exact ⟨K, fd, Pw.sp_law K, KX, hb, fun H a ns hl _ hS => ⟨a, ns, rfl, hS, fun _ _ => rfl⟩, hF⟩

