import Derived.Test.YtlabkganboebeaaGreatAmD
import Derived.Test.YtlabkganboebeaaGreatNm
set_option linter.all false
/-
The statements' arguments, typed.
-/
namespace Am
open Go
section
variable {H : Type} {enc' : TypeId × Value → H} {w : World}

theorem u_int : prog.underlying T_int = some (.int .i64) := by kernel_rfl
theorem u_byte : prog.underlying T_uint8 = some (.int .u8) := by kernel_rfl
theorem u_bool : prog.underlying T_bool = some .bool := by kernel_rfl
theorem typ_region : Typ enc' prog w 2 T_api_Region Region encRegion Region.ok :=
  Typ.str (m := 1) (ts := [T_int, T_int, T_bool]) (by kernel_rfl) (TypF.cons ((Typ.int u_int).mono) (TypF.cons ((Typ.int u_int).mono) (TypF.cons ((Typ.bool u_bool).mono) (TypF.nil.mono (Nat.zero_le _))))) (fun a => ⟨a.1, a.2.1, a.2.2.1⟩) (fun a => rfl) (fun a h => ⟨h.1, h.2.1⟩)
theorem typ_proc : Typ enc' prog w 2 T_api_ProcConf ProcConf encProc ProcConf.ok :=
  Typ.str (m := 1) (ts := [T_int, T_int, T_int]) (by kernel_rfl) (TypF.cons ((Typ.int u_int).mono) (TypF.cons ((Typ.int u_int).mono) (TypF.cons ((Typ.int u_int).mono) (TypF.nil.mono (Nat.zero_le _))))) (fun a => ⟨a.1, a.2.1, a.2.2.1⟩) (fun a => rfl) (fun a h => ⟨h.1, h.2.1, h.2.2.1⟩)
theorem typ_port : Typ enc' prog w 2 T_api_PortConf PortConf encPort PortConf.ok :=
  Typ.str (m := 1) (ts := [T_bool, T_bool, T_int, T_int]) (by kernel_rfl) (TypF.cons ((Typ.bool u_bool).mono) (TypF.cons ((Typ.bool u_bool).mono) (TypF.cons ((Typ.int u_int).mono) (TypF.cons ((Typ.int u_int).mono) (TypF.nil.mono (Nat.zero_le _)))))) (fun a => ⟨a.1, a.2.1, a.2.2.1, a.2.2.2.1⟩) (fun a => rfl) (fun a h => ⟨h.2.2.1, h.2.2.2.1⟩)
theorem typ_sem : Typ enc' prog w 2 T_api_SemConf SemConf encSem SemConf.ok :=
  Typ.str (m := 1) (ts := [T_int, T_int]) (by kernel_rfl) (TypF.cons ((Typ.int u_int).mono) (TypF.cons ((Typ.int u_int).mono) (TypF.nil.mono (Nat.zero_le _)))) (fun a => ⟨a.1, a.2.1⟩) (fun a => rfl) (fun a h => ⟨h.1, h.2.1⟩)
theorem typ_pool : Typ enc' prog w 2 T_api_PoolConf PoolConf encPool PoolConf.ok :=
  Typ.str (m := 1) (ts := [T_int, T_int]) (by kernel_rfl) (TypF.cons ((Typ.int u_int).mono) (TypF.cons ((Typ.int u_int).mono) (TypF.nil.mono (Nat.zero_le _)))) (fun a => ⟨a.1, a.2.1⟩) (fun a => rfl) (fun a h => ⟨h.1, h.2.1⟩)
theorem typ_ints : Typ enc' prog w 2 T_S_int (GSl Int) (fun s => [encSl encInt s]) (GSl.ok I64) :=
  Typ.slice (by kernel_rfl : prog.underlying T_S_int = some (.slice T_int)) (Typ.int u_int)
theorem typ_regions : Typ enc' prog w 3 T_S_api_Region (GSl Region) (fun s => [encSl encRegion s]) (GSl.ok Region.ok) :=
  Typ.slice (by kernel_rfl : prog.underlying T_S_api_Region = some (.slice T_api_Region)) (typ_region)
theorem typ_procs : Typ enc' prog w 3 T_S_api_ProcConf (GSl ProcConf) (fun s => [encSl encProc s]) (GSl.ok ProcConf.ok) :=
  Typ.slice (by kernel_rfl : prog.underlying T_S_api_ProcConf = some (.slice T_api_ProcConf)) (typ_proc)
theorem typ_ports : Typ enc' prog w 3 T_S_api_PortConf (GSl PortConf) (fun s => [encSl encPort s]) (GSl.ok PortConf.ok) :=
  Typ.slice (by kernel_rfl : prog.underlying T_S_api_PortConf = some (.slice T_api_PortConf)) (typ_port)
theorem typ_sems : Typ enc' prog w 3 T_S_api_SemConf (GSl SemConf) (fun s => [encSl encSem s]) (GSl.ok SemConf.ok) :=
  Typ.slice (by kernel_rfl : prog.underlying T_S_api_SemConf = some (.slice T_api_SemConf)) (typ_sem)
theorem typ_pools : Typ enc' prog w 3 T_S_api_PoolConf (GSl PoolConf) (fun s => [encSl encPool s]) (GSl.ok PoolConf.ok) :=
  Typ.slice (by kernel_rfl : prog.underlying T_S_api_PoolConf = some (.slice T_api_PoolConf)) (typ_pool)
theorem typ_part : Typ enc' prog w 5 T_api_PartConf PartConf encPart PartConf.ok :=
  Typ.str (m := 4) (ts := [T_S_api_Region, T_S_api_ProcConf, T_S_api_PortConf, T_S_api_SemConf, T_int, T_S_api_PoolConf, T_S_int, T_int, T_int, T_int, T_S_int]) (by kernel_rfl) (TypF.cons (typ_regions.mono) (TypF.cons (typ_procs.mono) (TypF.cons (typ_ports.mono) (TypF.cons (typ_sems.mono) (TypF.cons ((Typ.int u_int).mono) (TypF.cons (typ_pools.mono) (TypF.cons (typ_ints.mono) (TypF.cons ((Typ.int u_int).mono) (TypF.cons ((Typ.int u_int).mono) (TypF.cons ((Typ.int u_int).mono) (TypF.cons (typ_ints.mono) (TypF.nil.mono (Nat.zero_le _))))))))))))) (fun a => ⟨a.1, a.2.1, a.2.2.1, a.2.2.2.1, a.2.2.2.2.1, a.2.2.2.2.2.1, a.2.2.2.2.2.2.1, a.2.2.2.2.2.2.2.1, a.2.2.2.2.2.2.2.2.1, a.2.2.2.2.2.2.2.2.2.1, a.2.2.2.2.2.2.2.2.2.2.1⟩) (fun a => rfl) (fun a h => ⟨h.1, h.2.1, h.2.2.1, h.2.2.2.1, h.2.2.2.2.1, h.2.2.2.2.2.1, h.2.2.2.2.2.2.1, h.2.2.2.2.2.2.2.1, h.2.2.2.2.2.2.2.2.1, h.2.2.2.2.2.2.2.2.2.1, h.2.2.2.2.2.2.2.2.2.2.1⟩)
theorem typ_parts : Typ enc' prog w 6 T_S_api_PartConf (GSl PartConf) (fun s => [encSl encPart s]) (GSl.ok PartConf.ok) :=
  Typ.slice (by kernel_rfl : prog.underlying T_S_api_PartConf = some (.slice T_api_PartConf)) (typ_part)
def encEnd (x : Int × Int) : List V := [I x.1, I x.2]
theorem typ_end : Typ enc' prog w 2 T_api_End (Int × Int) encEnd (fun x => I64 x.1 ∧ I64 x.2) :=
  Typ.str (m := 1) (ts := [T_int, T_int]) (by kernel_rfl) (TypF.cons ((Typ.int u_int).mono) (TypF.cons ((Typ.int u_int).mono) (TypF.nil.mono (Nat.zero_le _)))) (fun a => ⟨a.1, a.2.1⟩) (fun a => rfl) (fun a h => ⟨h.1, h.2.1⟩)
theorem typ_chan : Typ enc' prog w 3 T_api_ChanConf ChanConf encChan ChanConf.ok :=
  Typ.str (m := 2) (ts := [T_api_End, T_api_End]) (by kernel_rfl) (TypF.cons (typ_end) (TypF.cons (typ_end) (TypF.nil.mono (Nat.zero_le _)))) (fun a => ⟨a.1.1, a.1.2, a.2.1.1, a.2.1.2⟩) (fun a => rfl) (fun a h => ⟨h.1.1, h.1.2, h.2.1.1, h.2.1.2⟩)
theorem typ_chans : Typ enc' prog w 4 T_S_api_ChanConf (GSl ChanConf) (fun s => [encSl encChan s]) (GSl.ok ChanConf.ok) :=
  Typ.slice (by kernel_rfl : prog.underlying T_S_api_ChanConf = some (.slice T_api_ChanConf)) (typ_chan)
theorem typ_window : Typ enc' prog w 2 T_api_Window Window encWindow Window.ok :=
  Typ.str (m := 1) (ts := [T_int, T_int, T_int]) (by kernel_rfl) (TypF.cons ((Typ.int u_int).mono) (TypF.cons ((Typ.int u_int).mono) (TypF.cons ((Typ.int u_int).mono) (TypF.nil.mono (Nat.zero_le _))))) (fun a => ⟨a.1, a.2.1, a.2.2.1⟩) (fun a => rfl) (fun a h => ⟨h.1, h.2.1, h.2.2.1⟩)
theorem typ_windows : Typ enc' prog w 3 T_S_api_Window (GSl Window) (fun s => [encSl encWindow s]) (GSl.ok Window.ok) :=
  Typ.slice (by kernel_rfl : prog.underlying T_S_api_Window = some (.slice T_api_Window)) (typ_window)
theorem typ_mode : Typ enc' prog w 4 T_api_Mode Mode encMode Mode.ok :=
  Typ.str (m := 3) (ts := [T_int, T_S_api_Window]) (by kernel_rfl) (TypF.cons ((Typ.int u_int).mono) (TypF.cons (typ_windows.mono) (TypF.nil.mono (Nat.zero_le _)))) (fun a => ⟨a.1, a.2.1⟩) (fun a => rfl) (fun a h => ⟨h.1, h.2.1⟩)
theorem typ_modes : Typ enc' prog w 5 T_S_api_Mode (GSl Mode) (fun s => [encSl encMode s]) (GSl.ok Mode.ok) :=
  Typ.slice (by kernel_rfl : prog.underlying T_S_api_Mode = some (.slice T_api_Mode)) (typ_mode)
theorem typ_level : Typ enc' prog w 2 T_api_Level Level encLevel Level.ok :=
  Typ.str (m := 1) (ts := [T_int, T_int]) (by kernel_rfl) (TypF.cons ((Typ.int u_int).mono) (TypF.cons ((Typ.int u_int).mono) (TypF.nil.mono (Nat.zero_le _)))) (fun a => ⟨a.1, a.2.1⟩) (fun a => rfl) (fun a h => ⟨h.1, h.2.1⟩)
theorem typ_levels : Typ enc' prog w 3 T_S_api_Level (GSl Level) (fun s => [encSl encLevel s]) (GSl.ok Level.ok) :=
  Typ.slice (by kernel_rfl : prog.underlying T_S_api_Level = some (.slice T_api_Level)) (typ_level)
theorem typ_nap : Typ enc' prog w 2 T_api_Nap Nap encNap Nap.ok :=
  Typ.str (m := 1) (ts := [T_int, T_int, T_int]) (by kernel_rfl) (TypF.cons ((Typ.int u_int).mono) (TypF.cons ((Typ.int u_int).mono) (TypF.cons ((Typ.int u_int).mono) (TypF.nil.mono (Nat.zero_le _))))) (fun a => ⟨a.1, a.2.1, a.2.2.1⟩) (fun a => rfl) (fun a h => ⟨h.1, h.2.1, h.2.2.1⟩)
theorem typ_naps : Typ enc' prog w 3 T_S_api_Nap (GSl Nap) (fun s => [encSl encNap s]) (GSl.ok Nap.ok) :=
  Typ.slice (by kernel_rfl : prog.underlying T_S_api_Nap = some (.slice T_api_Nap)) (typ_nap)
theorem typ_power : Typ enc' prog w 4 T_api_PowerConf PowerConf encPower PowerConf.ok :=
  Typ.str (m := 3) (ts := [T_S_api_Level, T_S_api_Nap, T_int, T_int, T_int, T_int, T_int, T_int]) (by kernel_rfl) (TypF.cons (typ_levels.mono) (TypF.cons (typ_naps.mono) (TypF.cons ((Typ.int u_int).mono) (TypF.cons ((Typ.int u_int).mono) (TypF.cons ((Typ.int u_int).mono) (TypF.cons ((Typ.int u_int).mono) (TypF.cons ((Typ.int u_int).mono) (TypF.cons ((Typ.int u_int).mono) (TypF.nil.mono (Nat.zero_le _)))))))))) (fun a => ⟨a.1, a.2.1, a.2.2.1, a.2.2.2.1, a.2.2.2.2.1, a.2.2.2.2.2.1, a.2.2.2.2.2.2.1, a.2.2.2.2.2.2.2.1⟩) (fun a => rfl) (fun a h => ⟨h.1, h.2.1, h.2.2.1, h.2.2.2.1, h.2.2.2.2.1, h.2.2.2.2.2.1, h.2.2.2.2.2.2.1, h.2.2.2.2.2.2.2.1⟩)
theorem typ_shed : Typ enc' prog w 3 T_api_ShedConf ShedConf encShed ShedConf.ok :=
  Typ.str (m := 2) (ts := [T_S_int, T_S_int]) (by kernel_rfl) (TypF.cons (typ_ints) (TypF.cons (typ_ints) (TypF.nil.mono (Nat.zero_le _)))) (fun a => ⟨a.1, a.2.1⟩) (fun a => rfl) (fun a h => ⟨h.1, h.2.1⟩)
theorem typ_config : Typ enc' prog w 7 T_api_Config Config encConfig Config.ok :=
  Typ.str (m := 6) (ts := [T_S_api_PartConf, T_S_api_ChanConf, T_S_api_Mode, T_api_PowerConf, T_api_ShedConf]) (by kernel_rfl) (TypF.cons (typ_parts.mono) (TypF.cons (typ_chans.mono) (TypF.cons (typ_modes.mono) (TypF.cons (typ_power.mono) (TypF.cons (typ_shed.mono) (TypF.nil.mono (Nat.zero_le _))))))) (fun a => ⟨a.1, a.2.1, a.2.2.1, a.2.2.2.1, a.2.2.2.2.1⟩) (fun a => rfl) (fun a h => ⟨h.1, h.2.1, h.2.2.1, h.2.2.2.1, h.2.2.2.2.1⟩)
theorem typ_step : Typ enc' prog w 2 T_api_Step PStep encStep PStep.ok :=
  Typ.str (m := 1) (ts := [T_int, T_int, T_int, T_int, T_int, T_int]) (by kernel_rfl) (TypF.cons ((Typ.int u_int).mono) (TypF.cons ((Typ.int u_int).mono) (TypF.cons ((Typ.int u_int).mono) (TypF.cons ((Typ.int u_int).mono) (TypF.cons ((Typ.int u_int).mono) (TypF.cons ((Typ.int u_int).mono) (TypF.nil.mono (Nat.zero_le _)))))))) (fun a => ⟨a.1, a.2.1, a.2.2.1, a.2.2.2.1, a.2.2.2.2.1, a.2.2.2.2.2.1⟩) (fun a => rfl) (fun a h => ⟨h.1, h.2.1, h.2.2.1, h.2.2.2.1, h.2.2.2.2.1, h.2.2.2.2.2.1⟩)
theorem typ_frame : Typ enc' prog w 2 T_api_Frame Frame encFrame Frame.ok :=
  Typ.str (m := 1) (ts := [T_int, T_int, T_int, T_int]) (by kernel_rfl) (TypF.cons ((Typ.int u_int).mono) (TypF.cons ((Typ.int u_int).mono) (TypF.cons ((Typ.int u_int).mono) (TypF.cons ((Typ.int u_int).mono) (TypF.nil.mono (Nat.zero_le _)))))) (fun a => ⟨a.1, a.2.1, a.2.2.1, a.2.2.2.1⟩) (fun a => rfl) (fun a h => ⟨h.1, h.2.1, h.2.2.1, h.2.2.2.1⟩)
theorem typ_steps : Typ enc' prog w 3 T_S_api_Step (GSl PStep) (fun s => [encSl encStep s]) (GSl.ok PStep.ok) :=
  Typ.slice (by kernel_rfl : prog.underlying T_S_api_Step = some (.slice T_api_Step)) (typ_step)
theorem typ_progs1 : Typ enc' prog w 4 T_S_S_api_Step (GSl (GSl PStep)) (fun s => [encSl encProg s]) (GSl.ok (GSl.ok PStep.ok)) :=
  Typ.slice (by kernel_rfl : prog.underlying T_S_S_api_Step = some (.slice T_S_api_Step)) (typ_steps)
theorem typ_progs2 : Typ enc' prog w 5 T_S_S_S_api_Step (GSl (GSl (GSl PStep))) (fun s => [encSl encProgs s]) (GSl.ok (GSl.ok (GSl.ok PStep.ok))) :=
  Typ.slice (by kernel_rfl : prog.underlying T_S_S_S_api_Step = some (.slice T_S_S_api_Step)) (typ_progs1)
theorem typ_frames : Typ enc' prog w 3 T_S_api_Frame (GSl Frame) (fun s => [encSl encFrame s]) (GSl.ok Frame.ok) :=
  Typ.slice (by kernel_rfl : prog.underlying T_S_api_Frame = some (.slice T_api_Frame)) (typ_frame)
theorem typ_script : Typ enc' prog w 6 T_api_Script Script encScript Script.ok :=
  Typ.str (m := 5) (ts := [T_S_S_S_api_Step, T_S_api_Frame]) (by kernel_rfl) (TypF.cons (typ_progs2.mono) (TypF.cons (typ_frames.mono) (TypF.nil.mono (Nat.zero_le _)))) (fun a => ⟨a.1, a.2.1⟩) (fun a => rfl) (fun a h => ⟨h.1, h.2.1⟩)
theorem typ_event : Typ enc' prog w 2 T_api_Event Event encEvent Event.ok :=
  Typ.str (m := 1) (ts := [T_int, T_int, T_int, T_int, T_int, T_int]) (by kernel_rfl) (TypF.cons ((Typ.int u_int).mono) (TypF.cons ((Typ.int u_int).mono) (TypF.cons ((Typ.int u_int).mono) (TypF.cons ((Typ.int u_int).mono) (TypF.cons ((Typ.int u_int).mono) (TypF.cons ((Typ.int u_int).mono) (TypF.nil.mono (Nat.zero_le _)))))))) (fun a => ⟨a.1, a.2.1, a.2.2.1, a.2.2.2.1, a.2.2.2.2.1, a.2.2.2.2.2.1⟩) (fun a => rfl) (fun a h => ⟨h.1, h.2.1, h.2.2.1, h.2.2.2.1, h.2.2.2.2.1, h.2.2.2.2.2.1⟩)
theorem typ_events : Typ enc' prog w 3 T_S_api_Event (GSl Event) (fun s => [encSl encEvent s]) (GSl.ok Event.ok) :=
  Typ.slice (by kernel_rfl : prog.underlying T_S_api_Event = some (.slice T_api_Event)) (typ_event)
theorem typ_bytes : Typ enc' prog w 2 T_S_uint8 (GSl UInt8) (fun s => [encSl encByte s]) (GSl.ok (fun _ => True)) :=
  Typ.slice (by kernel_rfl : prog.underlying T_S_uint8 = some (.slice T_uint8)) (Typ.byte u_byte)
theorem typ_message : Typ enc' prog w 3 T_api_Message Message encMessage Message.ok :=
  Typ.str (m := 2) (ts := [T_int, T_int, T_S_uint8]) (by kernel_rfl) (TypF.cons ((Typ.int u_int).mono) (TypF.cons ((Typ.int u_int).mono) (TypF.cons (typ_bytes.mono) (TypF.nil.mono (Nat.zero_le _))))) (fun a => ⟨a.1, a.2.1, a.2.2.1⟩) (fun a => rfl) (fun a h => ⟨h.1, h.2.1, h.2.2.1⟩)
theorem typ_messages : Typ enc' prog w 4 T_S_api_Message (GSl Message) (fun s => [encSl encMessage s]) (GSl.ok Message.ok) :=
  Typ.slice (by kernel_rfl : prog.underlying T_S_api_Message = some (.slice T_api_Message)) (typ_message)
theorem typ_charge : Typ enc' prog w 3 T_api_Charge Charge encCharge Charge.ok :=
  Typ.str (m := 2) (ts := [T_S_int, T_int, T_int, T_int]) (by kernel_rfl) (TypF.cons (typ_ints.mono) (TypF.cons ((Typ.int u_int).mono) (TypF.cons ((Typ.int u_int).mono) (TypF.cons ((Typ.int u_int).mono) (TypF.nil.mono (Nat.zero_le _)))))) (fun a => ⟨a.1, a.2.1, a.2.2.1, a.2.2.2.1⟩) (fun a => rfl) (fun a h => ⟨h.1, h.2.1, h.2.2.1, h.2.2.2.1⟩)
theorem typ_bound : Typ enc' prog w 2 T_api_Bound Bound encBound Bound.ok :=
  Typ.str (m := 1) (ts := [T_int, T_int, T_int]) (by kernel_rfl) (TypF.cons ((Typ.int u_int).mono) (TypF.cons ((Typ.int u_int).mono) (TypF.cons ((Typ.int u_int).mono) (TypF.nil.mono (Nat.zero_le _))))) (fun a => ⟨a.1, a.2.1, a.2.2.1⟩) (fun a => rfl) (fun a h => ⟨h.1, h.2.1, h.2.2.1⟩)
theorem typ_bounds : Typ enc' prog w 3 T_S_api_Bound (GSl Bound) (fun s => [encSl encBound s]) (GSl.ok Bound.ok) :=
  Typ.slice (by kernel_rfl : prog.underlying T_S_api_Bound = some (.slice T_api_Bound)) (typ_bound)
theorem typ_ints2 : Typ enc' prog w 3 T_S_S_int (GSl (GSl Int)) (fun s => [encSl encInts s]) (GSl.ok (GSl.ok I64)) :=
  Typ.slice (by kernel_rfl : prog.underlying T_S_S_int = some (.slice T_S_int)) (typ_ints)
theorem typ_result : Typ enc' prog w 6 T_api_Result Result encResult Result.ok :=
  Typ.str (m := 5) (ts := [T_S_api_Event, T_S_api_Message, T_S_api_Bound, T_api_Charge, T_int, T_S_int, T_S_int, T_S_S_int, T_int]) (by kernel_rfl) (TypF.cons (typ_events.mono) (TypF.cons (typ_messages.mono) (TypF.cons (typ_bounds.mono) (TypF.cons (typ_charge.mono) (TypF.cons ((Typ.int u_int).mono) (TypF.cons (typ_ints.mono) (TypF.cons (typ_ints.mono) (TypF.cons (typ_ints2.mono) (TypF.cons ((Typ.int u_int).mono) (TypF.nil.mono (Nat.zero_le _))))))))))) (fun a => ⟨a.1, a.2.1, a.2.2.1, a.2.2.2.1, a.2.2.2.2.1, a.2.2.2.2.2.1, a.2.2.2.2.2.2.1, a.2.2.2.2.2.2.2.1, a.2.2.2.2.2.2.2.2.1⟩) (fun a => rfl) (fun a h => ⟨h.1, h.2.1, h.2.2.1, h.2.2.2.1, h.2.2.2.2.1, h.2.2.2.2.2.1, h.2.2.2.2.2.2.1, h.2.2.2.2.2.2.2.1, h.2.2.2.2.2.2.2.2.1⟩)
end
end Am
